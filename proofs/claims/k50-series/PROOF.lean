import PyProof.Rows.All
import Wide.All
import OpenK.AllK
import Wide.FinOn
import HandS.ForMost
import HandS.Flow
import HandS.IsInst
import HandS.TupAny
import HandS.TupMul
import HandS.Style
import HandS.TryOnly
import HandS.Conv
import PyProof.ReprReads
import PyProof.ReprLen
import PyProof.CallFns
import PyProof.Rows.StrJoinMade
import PyProof.Rows.RegStrFacts
import HandS.Iter
import HandS.Sort
import HandS.Zip
import HandS.Ends
import PySem.Challenge.RW_branchdesk_k50_whole_series_of_commits
set_option Elab.async false
set_option autoImplicit false
/-! A small language of plain data: what the program's own subset of Python computes, by a total evaluator. -/
namespace Br

/-- data without sharing: lists that nobody changes any more are values -/
inductive PV where
  | non
  | bl (b : Bool)
  | int (i : Int)
  | str (s : List Nat)
  | tup (xs : List PV)
  | lst (xs : List PV)

mutual
def PV.beq : PV → PV → Bool
  | .non, .non => true
  | .bl a, .bl b => a == b
  | .int a, .int b => a == b
  | .str a, .str b => a == b
  | .tup xs, .tup ys => PV.beqL xs ys
  | .lst xs, .lst ys => PV.beqL xs ys
  | _, _ => false
def PV.beqL : List PV → List PV → Bool
  | [], [] => true
  | x :: xs, y :: ys => PV.beq x y && PV.beqL xs ys
  | _, _ => false
end

def b2i (b : Bool) : Int := if b then 1 else 0
mutual
/-- Python's == -/
def PV.eqv : PV → PV → Bool
  | .non, .non => true
  | .bl a, .bl b => a == b
  | .bl a, .int j => b2i a == j
  | .int i, .bl b => i == b2i b
  | .int a, .int b => a == b
  | .str a, .str b => a == b
  | .tup xs, .tup ys => PV.eqvL xs ys
  | .lst xs, .lst ys => PV.eqvL xs ys
  | _, _ => false
def PV.eqvL : List PV → List PV → Bool
  | [], [] => true
  | x :: xs, y :: ys => PV.eqv x y && PV.eqvL xs ys
  | _, _ => false
end
mutual
/-- nested at most so deep -/
def PV.dle : Nat → PV → Bool
  | 0, .tup _ => false
  | 0, .lst _ => false
  | d + 1, .tup xs => PV.dleL d xs
  | d + 1, .lst xs => PV.dleL d xs
  | _, _ => true
def PV.dleL : Nat → List PV → Bool
  | _, [] => true
  | d, x :: xs => PV.dle d x && PV.dleL d xs
end

/-- a text that the library lays -/
def okS (s : List Nat) : Bool := s.all (· < 1114112) && decide (s.length ≤ 4000000)

/-- what a name may hold -/
inductive VV where
  | p (v : PV)
  | r (n : Nat)
  | g (lo hi : Int)
  /-- the law's script -/
  | s (ns : List Int)
  /-- the text that repr tells of a datum -/
  | t (x : PV)

inductive Cell where
  | lst (xs : List PV)
  | dead

abbrev CH := List Cell
/-- an exception: its class, its arguments -/
structure Exn where
  cls : Nat
  args : List PV

inductive Res (α : Type) where
  | ok (a : α) (h : CH)
  | exc (e : Exn) (h : CH)
  | err

def Res.bind {α β : Type} : Res α → (α → CH → Res β) → Res β
  | .ok a h, f => f a h
  | .exc e h, _ => .exc e h
  | .err, _ => .err
/-- a value comes, or the evaluator stops -/
def outP (h : CH) : Option PV → Res VV
  | some x => .ok (.p x) h
  | none => .err
def outB (h : CH) : Option Bool → Res VV
  | some x => .ok (.p (.bl x)) h
  | none => .err
/-- by a truth -/
def brO {α : Type} (o : Option Bool) (a b : Res α) : Res α :=
  match o with
  | some true => a
  | some false => b
  | none => .err
def Res.ofO {α : Type} (h : CH) : Option α → Res α
  | some a => .ok a h
  | none => .err

inductive BOp where
  | add | sub | mul | fdiv | mod | pow
  deriving DecidableEq
inductive COp where
  | eq | ne | lt | le | gt | ge | isin | notin | is_ | isnot
  deriving DecidableEq
inductive Bi where
  | len | tuple | list | abs | int_ | max | min | repr | str_ | ord | chr | sum | all | any | sorted
  deriving DecidableEq
inductive Ty where
  | int | bool | str | tuple | list
  deriving DecidableEq
inductive Me where
  | append | join | index | find | split | replace
  deriving DecidableEq
/-- a plain target -/
inductive CG where
  | nm (i : Nat)
  | tp (ts : List CG)

mutual
inductive CE where
  | var (i : Nat)
  | cst (v : PV)
  | glo (g : Nat)
  | tup (es : List CE)
  | lst (es : List CE)
  | thaw (e : CE)
  | bin (op : BOp) (a b : CE)
  | neg (a : CE)
  | not_ (a : CE)
  | and_ (es : List CE)
  | or_ (es : List CE)
  | ife (c a b : CE)
  | cmp (op : COp) (a b : CE)
  | cmp2 (op op' : COp) (a b c : CE)
  | idx (a i : CE)
  | slc (a : CE) (lo hi : Option CE)
  | call (f : Nat) (es : List CE)
  | bi (b : Bi) (es : List CE)
  | isi (e : CE) (ts : List Ty)
  | rpr (e : CE)
  | mth (m : Me) (o : CE) (es : List CE)
  | rng (es : List CE)
  | comp (own : List Nat) (tg : CG) (it : CI) (ifs : Option CE) (elt : CE)
inductive CI where
  | val (e : CE)
  | rng (es : List CE)
  | zip (a b : CE)
  | enm (e : CE)
end

inductive CS where
  | exp (e : CE)
  | asg (g : CG) (e : CE)
  | par (is : List Nat) (es : List CE)
  | setI (o i e : CE)
  | aug (i : Nat) (op : BOp) (e : CE)
  | ret (e : CE)
  | frz (e : CE)
  | retN
  | ife (c : CE) (a b : List CS)
  | for_ (tg : CG) (it : CI) (b : List CS)
  | whl (c : CE) (b : List CS)
  | pass
  | brk
  | cnt
  | rse (cls : Nat) (es : List CE)

abbrev Env := List (Option VV)

/-! ### operations -/
def intOf : PV → Option Int
  | .int i => some i
  | _ => none
/-- the place of an index -/
def ixN (n : Nat) (i : Int) : Option Nat :=
  if 0 ≤ i then (if i < n then some i.toNat else none) else (if 0 ≤ n + i then some (n + i).toNat else none)
def atI {α : Type} (xs : List α) (i : Int) : Option α := (ixN xs.length i).bind fun j => xs[j]?
/-- the place of a slice's bound -/
def cutN (n : Nat) (d : Nat) : Option Int → Nat
  | none => d
  | some i => if i < 0 then (n + i).toNat else min i.toNat n
def cutL {α : Type} (xs : List α) (lo hi : Option Int) : List α :=
  (xs.drop (cutN xs.length 0 lo)).take (cutN xs.length xs.length hi - cutN xs.length 0 lo)
def rngL (lo hi : Int) : List PV := (List.range (hi - lo).toNat).map fun k => .int (lo + (k : Nat))
def zip2 : List PV → List PV → List PV
  | x :: xs, y :: ys => .tup [x, y] :: zip2 xs ys
  | _, _ => []
def enmL : Nat → List PV → List PV
  | _, [] => []
  | i, x :: xs => .tup [.int (i : Nat), x] :: enmL (i + 1) xs
def zipP : VV → VV → Option (List PV)
  | .p (.tup xs), .p (.tup ys) => some (zip2 xs ys)
  | .p (.lst xs), .p (.lst ys) => some (zip2 xs ys)
  | _, _ => none
def enmP : VV → Option (List PV)
  | .p (.lst xs) => some (enmL 0 xs)
  | _ => none
def srcOf : VV → List PV → Option (Nat × List PV)
  | .r n, xs => some (n, xs)
  | _, _ => none
/-- the things that a loop walks -/
def items (h : CH) : VV → Option (List PV)
  | .p (.tup xs) => some xs
  | .p (.lst xs) => some xs
  | .p (.str s) => some (s.map fun c => .str [c])
  | .r n => match h[n]? with
    | some (.lst xs) => some xs
    | _ => none
  | .g lo hi => some (rngL lo hi)
  | .s ns => some (ns.map .int)
  | _ => none
/-- a value as data (a list that may change as it is now) -/
def look (h : CH) : VV → Option PV
  | .p v => some v
  | .r n => match h[n]? with
    | some (.lst xs) => some (.lst xs)
    | _ => none
  | _ => none
def truP : PV → Bool
  | .non => false
  | .bl b => b
  | .int i => decide (i ≠ 0)
  | .str s => !s.isEmpty
  | .tup xs => !xs.isEmpty
  | .lst xs => !xs.isEmpty
def truth (h : CH) (v : VV) : Option Bool := (look h v).map truP

def wideB (i : Int) : Bool := decide (i.natAbs < 2 ^ 64)
/-- one of the factors is small: all sizes stay below the line -/
def mulOk (i j : Int) : Bool := wideB i || wideB j
def repL {α : Type} (n : Nat) (xs : List α) : List α := (List.replicate n xs).flatten
def binP : BOp → PV → PV → Option PV
  | .add, .int i, .int j => some (.int (i + j))
  | .sub, .int i, .int j => some (.int (i - j))
  | .mul, .int i, .int j => if mulOk i j then some (.int (i * j)) else none
  | .fdiv, .int i, .int j => if 0 < j ∧ j < 1073741824 then some (.int (i / j)) else none
  | .mod, .int i, .int j => if 0 < j then some (.int (i % j)) else none
  | .pow, .int i, .int j => if 0 ≤ j ∧ j ≤ 1000 ∧ i.natAbs < 2 ^ 64 then some (.int (i ^ j.toNat)) else none
  | .add, .str a, .str b => if a.length + b.length ≤ 1000000 then some (.str (a ++ b)) else none
  | .add, .tup a, .tup b => if a.length + b.length ≤ 1000000 then some (.tup (a ++ b)) else none
  | .add, .lst a, .lst b => if a.length + b.length ≤ 1000000 then some (.lst (a ++ b)) else none
  | .mul, .tup a, .int k => if -100000 ≤ k ∧ k ≤ 100000 ∧ a.length ≤ 10 then some (.tup (repL k.toNat a)) else none
  | .mul, .lst a, .int k => if -100000 ≤ k ∧ k ≤ 100000 ∧ a.length ≤ 10 then some (.lst (repL k.toNat a)) else none
  | .mul, .str a, .int k => if -100000 ≤ k ∧ k ≤ 100000 ∧ a.length ≤ 10 then some (.str (repL k.toNat a)) else none
  | _, _, _ => none
def binW (h : CH) (op : BOp) (v w : VV) : Option PV := (look h v).bind fun x => (look h w).bind fun y => binP op x y

def strLt : List Nat → List Nat → Bool
  | _, [] => false
  | [], _ :: _ => true
  | a :: as, b :: bs => if a < b then true else if b < a then false else strLt as bs
/-- whether a stands in b -/
def isSub : List Nat → List Nat → Bool
  | a, [] => a.isEmpty
  | a, b :: bs => a.isPrefixOf (b :: bs) || isSub a bs
def ltP : PV → PV → Option Bool
  | .int i, .int j => some (decide (i < j))
  | .str a, .str b => some (strLt a b)
  | _, _ => none
def deepC : Nat := 60
def eqP (x y : PV) : Option Bool := if x.dle deepC || y.dle deepC then some (x.eqv y) else none
def inP (x : PV) : PV → Option Bool
  | .tup ys => if x.dle deepC then some (ys.any fun y => y.eqv x) else none
  | .lst ys => if x.dle deepC then some (ys.any fun y => y.eqv x) else none
  | .str b => match x with
    | .str a => some (isSub a b)
    | _ => none
  | _ => none
def isNon : PV → Bool
  | .non => true
  | _ => false
def isP (x : PV) : PV → Option Bool
  | .non => some (isNon x)
  | .bl b => match x with
    | .bl c => some (c == b)
    | _ => none
  | _ => none
def cmpP : COp → PV → PV → Option Bool
  | .eq, x, y => eqP x y
  | .ne, x, y => (eqP x y).map (!·)
  | .lt, x, y => ltP x y
  | .gt, x, y => ltP y x
  | .le, x, y => (ltP y x).map (!·)
  | .ge, x, y => (ltP x y).map (!·)
  | .isin, x, y => inP x y
  | .notin, x, y => (inP x y).map (!·)
  | .is_, x, y => isP x y
  | .isnot, x, y => (isP x y).map (!·)
def cmpD (h : CH) (op : COp) (v w : VV) : Option Bool := (look h v).bind fun x => (look h w).bind fun y => cmpP op x y
/-- texts that repr tells: only those of equal data are compared -/
def cmpT : COp → PV → PV → Option Bool
  | .eq, x, y => if PV.beq x y then some true else none
  | .ne, x, y => if PV.beq x y then some false else none
  | _, _, _ => none
def cmpW (h : CH) (op : COp) (v w : VV) : Option Bool :=
  match v, w with
  | .t x, .t y => cmpT op x y
  | v, w => cmpD h op v w
mutual
/-- so long is the text that repr tells, at most -/
def szP : PV → Nat
  | .non => 4
  | .bl _ => 5
  | .int i => if 0 ≤ i ∧ i < 100000000000000000000 then 20 else if i.natAbs.log2 < 1920 then 1921 else 100000000
  | .str s => 10 * s.length + 2
  | .tup xs => szL xs + 3
  | .lst xs => szL xs + 3
def szL : List PV → Nat
  | [] => 0
  | x :: xs => szP x + 2 + szL xs
end
def shownOk (x : PV) : Bool := decide (szP x ≤ 16000000) && x.dle 60

def idxP : PV → PV → Option PV
  | .tup xs, .int i => atI xs i
  | .lst xs, .int i => atI xs i
  | .str s, .int i => (atI s i).map fun c => .str [c]
  | _, _ => none
def idxW (h : CH) (v i : VV) : Option PV := (look h v).bind fun x => (look h i).bind fun y => idxP x y
def bound : Option VV → Option (Option Int)
  | none => some none
  | some (.p (.int i)) => some (some i)
  | _ => none
def slcP (lo hi : Option Int) : PV → Option PV
  | .tup xs => some (.tup (cutL xs lo hi))
  | .lst xs => some (.lst (cutL xs lo hi))
  | .str s => some (.str (cutL s lo hi))
  | _ => none
def slcW (h : CH) (v : VV) (lo hi : Option VV) : Option PV := (look h v).bind fun x => (bound lo).bind fun a => (bound hi).bind fun b => slcP a b x

/-! ### texts of numbers -/
def digs : Nat → Nat → List Nat
  | 0, _ => []
  | f + 1, n => if n < 10 then [48 + n] else digs f (n / 10) ++ [48 + n % 10]
def natText (n : Nat) : List Nat := digs (n + 1) n
def intText (i : Int) : List Nat := if i < 0 then 45 :: natText i.natAbs else natText i.natAbs

def tyP : PV → Ty → Bool
  | .bl _, .int => true
  | .bl _, .bool => true
  | .int _, .int => true
  | .str _, .str => true
  | .tup _, .tuple => true
  | .lst _, .list => true
  | _, _ => false
def lenP : PV → Option Nat
  | .tup xs => some xs.length
  | .lst xs => some xs.length
  | .str s => some s.length
  | _ => none
def intsOf : List PV → Option (List Int)
  | [] => some []
  | .int i :: r => (intsOf r).map (i :: ·)
  | _ => none
def strsOf : List PV → Option (List (List Nat))
  | [] => some []
  | .str i :: r => (strsOf r).map (i :: ·)
  | _ => none
def blsOf : List PV → Option (List Bool)
  | [] => some []
  | .bl i :: r => (blsOf r).map (i :: ·)
  | _ => none
def biP : Bi → List PV → Option PV
  | .len, [x] => (lenP x).map fun n => .int (n : Nat)
  | .tuple, [.tup xs] => some (.tup xs)
  | .tuple, [.lst xs] => some (.tup xs)
  | .list, [.tup xs] => some (.lst xs)
  | .list, [.lst xs] => some (.lst xs)
  | .abs, [.int i] => some (.int (if i < 0 then -i else i))
  | .int_, [.int i] => some (.int i)
  | .int_, [.bl b] => some (.int (b2i b))
  | .max, [.int i, .int j] => some (.int (if j > i then j else i))
  | .min, [.int i, .int j] => some (.int (if j < i then j else i))
  | .ord, [.str [c]] => some (.int (c : Nat))
  | .all, [.lst xs] => (blsOf xs).map fun bs => .bl (bs.all id)
  | .any, [.lst xs] => (blsOf xs).map fun bs => .bl (bs.any id)
  | .repr, [.bl b] => some (.str (if b then [84, 114, 117, 101] else [70, 97, 108, 115, 101]))
  | _, _ => none
def lookAll (h : CH) : List VV → Option (List PV)
  | [] => some []
  | v :: r => (look h v).bind fun x => (lookAll h r).map (x :: ·)

def biW (h : CH) (b : Bi) (vs : List VV) : Option PV :=
  match b, vs with
  | .list, [.s ns] => some (.lst (ns.map .int))
  | b, vs => (lookAll h vs).bind (biP b)

/-! ### targets -/
mutual
/-- a target gets a value -/
def putG : CG → PV → Env → Option Env
  | .nm i, v, ρ => if i < ρ.length then some (ρ.set i (some (.p v))) else none
  | .tp ts, .tup vs, ρ => putGs ts vs ρ
  | .tp ts, .lst vs, ρ => putGs ts vs ρ
  | .tp _, _, _ => none
def putGs : List CG → List PV → Env → Option Env
  | [], [], ρ => some ρ
  | t :: ts, v :: vs, ρ => (putG t v ρ).bind fun ρ' => putGs ts vs ρ'
  | _, _, _ => none
end
mutual
def CG.slots : CG → List Nat
  | .nm i => [i]
  | .tp ts => CG.slotsL ts
def CG.slotsL : List CG → List Nat
  | [] => []
  | t :: ts => CG.slots t ++ CG.slotsL ts
end
def putW (g : CG) (v : VV) (ρ : Env) : Option Env :=
  match g, v with
  | .nm i, v => if i < ρ.length then some (ρ.set i (some v)) else none
  | .tp ts, .p v => putG (.tp ts) v ρ
  | .tp _, _ => none
def setAll : List Nat → List VV → Env → Option Env
  | [], [], ρ => some ρ
  | i :: is, v :: vs, ρ => if i < ρ.length then setAll is vs (ρ.set i (some v)) else none
  | _, _, _ => none
def wipe (ρ : Env) : List Nat → Env
  | [] => ρ
  | v :: vs => (wipe ρ vs).set v none

/-! ### expressions -/
/-- a call of the program's own function -/
abbrev Ask := Nat → List VV → CH → Res VV
structure Glo where
  G : Nat → Option PV

/-- what is walked still stands as it was -/
def still (src : Option (Nat × List PV)) (h : CH) : Bool :=
  match src with
  | none => true
  | some (n, xs) => match h[n]? with
    | some (.lst ys) => PV.beqL xs ys
    | _ => false
def mapLoop (src : Option (Nat × List PV)) (f : PV → CH → Res (Option PV)) : List PV → CH → Res (List PV)
  | [], h => if still src h then .ok [] h else .err
  | x :: xs, h => if still src h then (f x h).bind fun o h1 => (mapLoop src f xs h1).bind fun ys h2 => .ok (match o with | some y => y :: ys | none => ys) h2 else .err
def purP : VV → Option PV
  | .p v => some v
  | _ => none
def pursOf : List VV → Option (List PV)
  | [] => some []
  | v :: r => (purP v).bind fun x => (pursOf r).map (x :: ·)
def rangeOf : List PV → Option (Int × Int)
  | [.int j] => if -(2 ^ 62) ≤ j ∧ j < 2 ^ 62 then some (0, j) else none
  | [.int i, .int j] => if (-(2 ^ 62) ≤ i ∧ i < 2 ^ 62) ∧ -(2 ^ 62) ≤ j ∧ j < 2 ^ 62 then some (i, j) else none
  | _ => none

/-- a method of a built-in type -/
def mthW (m : Me) (v : VV) (vs : List VV) (h : CH) : Res VV :=
  match m, v, vs with
  | .append, .r n, [.p x] => match h[n]? with
    | some (.lst xs) => if xs.length < 1000000 then .ok (.p .non) (h.set n (.lst (xs ++ [x]))) else .err
    | _ => .err
  | _, _, _ => .err

section
variable (G : Nat → Option PV) (k : Ask)
mutual
def evE : CE → Env → CH → Res VV
  | .var i, ρ, h => match ρ[i]? with
    | some (some v) => .ok v h
    | _ => .err
  | .cst v, _, h => .ok (.p v) h
  | .glo g, _, h => outP h (G g)
  | .tup es, ρ, h => (evEs es ρ h).bind fun vs h1 => outP h1 ((pursOf vs).map .tup)
  | .lst es, ρ, h => (evEs es ρ h).bind fun vs h1 => outP h1 ((pursOf vs).map .lst)
  | .thaw e, ρ, h => (evE e ρ h).bind fun v h1 => match v with
    | .p (.lst xs) => .ok (.r h1.length) (h1 ++ [.lst xs])
    | _ => .err
  | .bin op a b, ρ, h => (evE a ρ h).bind fun v h1 => (evE b ρ h1).bind fun w h2 => outP h2 (binW h2 op v w)
  | .neg a, ρ, h => (evE a ρ h).bind fun v h1 => match v with
    | .p (.int i) => .ok (.p (.int (-i))) h1
    | _ => .err
  | .not_ a, ρ, h => (evE a ρ h).bind fun v h1 => outB h1 ((truth h1 v).map (!·))
  | .and_ es, ρ, h => evAnd es ρ h
  | .or_ es, ρ, h => evOr es ρ h
  | .ife c a b, ρ, h => (evE c ρ h).bind fun v h1 => brO (truth h1 v) (evE a ρ h1) (evE b ρ h1)
  | .cmp op a b, ρ, h => (evE a ρ h).bind fun v h1 => (evE b ρ h1).bind fun w h2 => outB h2 (cmpW h2 op v w)
  | .cmp2 op op' a b c, ρ, h => (evE a ρ h).bind fun v h1 => (evE b ρ h1).bind fun w h2 => brO (cmpW h2 op v w) ((evE c ρ h2).bind fun u h3 => outB h3 (cmpW h3 op' w u)) (.ok (.p (.bl false)) h2)
  | .idx a i, ρ, h => (evE a ρ h).bind fun v h1 => (evE i ρ h1).bind fun w h2 => outP h2 (idxW h2 v w)
  | .slc a lo hi, ρ, h => (evE a ρ h).bind fun v h1 => (evO lo ρ h1).bind fun l h2 => (evO hi ρ h2).bind fun u h3 => outP h3 (slcW h3 v l u)
  | .call f es, ρ, h => (evEs es ρ h).bind fun vs h1 => k f vs h1
  | .bi b es, ρ, h => (evEs es ρ h).bind fun vs h1 => outP h1 (biW h1 b vs)
  | .isi e ts, ρ, h => (evE e ρ h).bind fun v h1 => outB h1 ((look h1 v).map fun x => ts.any (tyP x))
  | .rpr e, ρ, h => (evE e ρ h).bind fun v h1 => match look h1 v with
    | some x => if shownOk x then .ok (.t x) h1 else .err
    | none => .err
  | .mth m o es, ρ, h => (evE o ρ h).bind fun v h1 => match look h1 v with
    | none => .err
    | some _ => (evEs es ρ h1).bind fun vs h2 => mthW m v vs h2
  | .rng es, ρ, h => (evEs es ρ h).bind fun vs h1 => match (pursOf vs).bind rangeOf with
    | some (lo, hi) => .ok (.g lo hi) h1
    | none => .err
  | .comp own tg it ifs elt, ρ, h => (evI it ρ h).bind fun (src, xs) h1 =>
    (mapLoop src (fun x h2 => match putG tg x (wipe ρ own) with
      | none => .err
      | some ρ' => (evT ifs ρ' h2).bind fun b h3 => if b then (evE elt ρ' h3).bind fun v h4 => (match purP v with
          | some y => .ok (some y) h4
          | none => .err) else .ok none h3) xs h1).bind fun ys h2 => if xs.length ≤ 1000000 then .ok (.p (.lst ys)) h2 else .err
def evEs : List CE → Env → CH → Res (List VV)
  | [], _, h => .ok [] h
  | e :: es, ρ, h => (evE e ρ h).bind fun v h1 => (evEs es ρ h1).bind fun vs h2 => .ok (v :: vs) h2
def evO : Option CE → Env → CH → Res (Option VV)
  | none, _, h => .ok none h
  | some e, ρ, h => (evE e ρ h).bind fun v h1 => .ok (some v) h1
def evT : Option CE → Env → CH → Res Bool
  | none, _, h => .ok true h
  | some e, ρ, h => (evE e ρ h).bind fun v h1 => Res.ofO h1 (truth h1 v)
def evAnd : List CE → Env → CH → Res VV
  | [], _, _ => .err
  | e :: es, ρ, h => (evE e ρ h).bind fun v h1 => match es with
    | [] => .ok v h1
    | _ :: _ => brO (truth h1 v) (evAnd es ρ h1) (.ok v h1)
def evOr : List CE → Env → CH → Res VV
  | [], _, _ => .err
  | e :: es, ρ, h => (evE e ρ h).bind fun v h1 => match es with
    | [] => .ok v h1
    | _ :: _ => brO (truth h1 v) (.ok v h1) (evOr es ρ h1)
def evI : CI → Env → CH → Res (Option (Nat × List PV) × List PV)
  | .val e, ρ, h => (evE e ρ h).bind fun v h1 => match items h1 v with
    | some xs => .ok (srcOf v xs, xs) h1
    | none => .err
  | .rng es, ρ, h => (evEs es ρ h).bind fun vs h1 => match (pursOf vs).bind rangeOf with
    | some (lo, hi) => .ok (none, rngL lo hi) h1
    | none => .err
  | .zip a b, ρ, h => (evE a ρ h).bind fun v h1 => (evE b ρ h1).bind fun w h2 => match zipP v w with
    | some xs => .ok (none, xs) h2
    | none => .err
  | .enm e, ρ, h => (evE e ρ h).bind fun v h1 => match enmP v with
    | some xs => .ok (none, xs) h1
    | none => .err
end

/-! ### statements -/
inductive Fl where
  | nx (ρ : Env)
  | rt (v : VV)
  | bk (ρ : Env)
  | ct (ρ : Env)

def forLoop (src : Option (Nat × List PV)) (f : PV → Env → CH → Res Fl) : List PV → Env → CH → Res Fl
  | [], ρ, h => if still src h then .ok (.nx ρ) h else .err
  | x :: xs, ρ, h => if still src h then (f x ρ h).bind fun fl h1 => (match fl with
    | .nx ρ1 => forLoop src f xs ρ1 h1
    | .ct ρ1 => forLoop src f xs ρ1 h1
    | .bk ρ1 => .ok (.nx ρ1) h1
    | .rt v => .ok (.rt v) h1) else .err
def whlLoop (c : Env → CH → Res Bool) (f : Env → CH → Res Fl) : Nat → Env → CH → Res Fl
  | 0, _, _ => .err
  | W + 1, ρ, h => (c ρ h).bind fun b h1 => if b then (f ρ h1).bind fun fl h2 => (match fl with
      | .nx ρ1 => whlLoop c f W ρ1 h2
      | .ct ρ1 => whlLoop c f W ρ1 h2
      | .bk ρ1 => .ok (.nx ρ1) h2
      | .rt v => .ok (.rt v) h2) else .ok (.nx ρ) h1
variable (W : Nat)
mutual
def evS : CS → Env → CH → Res Fl
  | .exp e, ρ, h => (evE G k e ρ h).bind fun _ h1 => .ok (.nx ρ) h1
  | .asg g e, ρ, h => (evE G k e ρ h).bind fun v h1 => match putW g v ρ with
    | some ρ' => .ok (.nx ρ') h1
    | none => .err
  | .par is es, ρ, h => (evEs G k es ρ h).bind fun vs h1 => match setAll is vs ρ with
    | some ρ' => .ok (.nx ρ') h1
    | none => .err
  | .setI o i e, ρ, h => (evE G k e ρ h).bind fun v h1 => (evE G k o ρ h1).bind fun ov h2 => (evE G k i ρ h2).bind fun iv h3 => match ov, iv, v with
    | .r n, .p (.int j), .p x => match h3[n]? with
      | some (.lst xs) => match ixN xs.length j with
        | some m => .ok (.nx ρ) (h3.set n (.lst (xs.set m x)))
        | none => .err
      | _ => .err
    | _, _, _ => .err
  | .aug i op e, ρ, h => match ρ[i]? with
    | some (some v) => (evE G k e ρ h).bind fun w h1 => match v, w with
      | .p x, .p y => match (match x with | .lst _ => none | _ => binP op x y) with
        | some z => .ok (.nx (ρ.set i (some (.p z)))) h1
        | none => .err
      | _, _ => .err
    | _ => .err
  | .ret e, ρ, h => (evE G k e ρ h).bind fun v h1 => .ok (.rt v) h1
  | .frz e, ρ, h => (evE G k e ρ h).bind fun v h1 => match v with
    | .r n => match h1[n]? with
      | some (.lst xs) => .ok (.rt (.p (.lst xs))) (h1.set n .dead)
      | _ => .err
    | v => .ok (.rt v) h1
  | .retN, _, h => .ok (.rt (.p .non)) h
  | .ife c a b, ρ, h => (evE G k c ρ h).bind fun v h1 => brO (truth h1 v) (evB a ρ h1) (evB b ρ h1)
  | .for_ tg it b, ρ, h => (evI G k it ρ h).bind fun (src, xs) h1 => forLoop src (fun x ρ1 h2 => match putG tg x ρ1 with
    | none => .err
    | some ρ2 => evB b ρ2 h2) xs ρ h1
  | .whl c b, ρ, h => whlLoop (fun ρ1 h1 => (evE G k c ρ1 h1).bind fun v h2 => Res.ofO h2 (truth h2 v)) (fun ρ1 h1 => evB b ρ1 h1) W ρ h
  | .pass, ρ, h => .ok (.nx ρ) h
  | .brk, ρ, h => .ok (.bk ρ) h
  | .cnt, ρ, h => .ok (.ct ρ) h
  | .rse _ _, _, _ => .err
def evB : List CS → Env → CH → Res Fl
  | [], ρ, h => .ok (.nx ρ) h
  | s :: ss, ρ, h => (evS s ρ h).bind fun fl h1 => match fl with
    | .nx ρ1 => evB ss ρ1 h1
    | fl => .ok fl h1
end
end

/-! ### functions -/
structure CFun where
  np : Nat
  nl : Nat
  body : List CS
  drop : Bool := true

def startE (nl : Nat) (vs : List VV) : Env := vs.map some ++ List.replicate (nl - vs.length) none
def finish (drop : Bool) (h : CH) (v : VV) (h' : CH) : Res VV :=
  if drop then (match v with
    | .p x => .ok (.p x) (h'.take h.length)
    | _ => .err) else .ok v h'
def leave (drop : Bool) (h : CH) : Res Fl → Res VV
  | .ok (.rt v) h' => finish drop h v h'
  | .ok (.nx _) h' => finish drop h (.p .non) h'
  | .exc e h' => .exc e (if drop then h'.take h.length else h')
  | _ => .err
structure Pg where
  F : Nat → Option CFun
  G : Nat → Option PV
  W : Nat
def callN (P : Pg) : Nat → Ask
  | 0, _, _, _ => .err
  | n + 1, f, vs, h => match P.F f with
    | none => .err
    | some cf => if vs.length = cf.np then leave cf.drop h (evB P.G (callN P n) P.W cf.body (startE cf.nl vs) h) else .err
end Br

set_option autoImplicit false
set_option linter.all false
set_option maxRecDepth 100000
/-! How plain data lie in the layer's abstract heap, and what stays of it. -/
namespace Br
open PySem PySem.Spec PyProof.Rows L2

def strOf (s : List Nat) : Str := ⟨s.toArray⟩
theorem strOf_cps (x : Str) : strOf x.cps.toList = x := rfl
theorem strOf_list (s : List Nat) : (strOf s).cps.toList = s := rfl
theorem strOf_inj {a b : List Nat} (h : strOf a = strOf b) : a = b := by
  have := congrArg (fun x : Str => x.cps.toList) h
  simpa [strOf] using this

mutual
def PV.toD : PV → PyData
  | .non => .none
  | .bl b => .bool b
  | .int i => .int i
  | .str s => .str (strOf s)
  | .tup xs => .tuple (PV.toDs xs)
  | .lst xs => .list (PV.toDs xs)
def PV.toDs : List PV → List PyData
  | [] => []
  | x :: xs => PV.toD x :: PV.toDs xs
end
/-- the text that repr tells -/
def txt (x : PV) : Str := x.toD.shown
def KTup (K : PySem.W.Frag) (a : Addr) (xs : List V) : Prop :=
  ∃ (o : Obj) (its : Array Value) (n : Nat), K.lookup a = some o ∧ o.cls = .type "tuple" ∧ o.data = .seq its n ∧ its.size ≤ sizeLine ∧ Vals xs its.toList
/-- a tuple that stays: tracked and no cell's, or of the written part -/
def TupAt (K : PySem.W.Frag) (H : Hp) (M : Addr → Prop) (a : Addr) (vs : List V) : Prop := (Rd H a (.tup vs) ∧ ¬ M a) ∨ KTup K a vs
theorem TupAt.sqT {K : PySem.W.Frag} {H : Hp} {M : Addr → Prop} {a : Addr} {vs : List V} (q : TupAt K H M a vs) : SqT K H a vs := q.elim (fun z => .inl z.1) .inr
mutual
inductive RP (K : PySem.W.Frag) (H : Hp) (M : Addr → Prop) : PV → V → Prop
  | non : RP K H M .non .non
  | bl (b : Bool) : RP K H M (.bl b) (.bl b)
  | int (i : Int) : RP K H M (.int i) (.int i)
  | str (s : List Nat) : okS s = true → RP K H M (.str s) (.str (strOf s))
  | tup {a : Addr} {vs : List V} {xs : List PV} : TupAt K H M a vs → RPs K H M xs vs → RP K H M (.tup xs) (.ref a)
  | lst {a : Addr} {vs : List V} {xs : List PV} : H a = some (.lst vs) → ¬ M a → RPs K H M xs vs → RP K H M (.lst xs) (.ref a)
inductive RPs (K : PySem.W.Frag) (H : Hp) (M : Addr → Prop) : List PV → List V → Prop
  | nil : RPs K H M [] []
  | cons {x : PV} {v : V} {xs : List PV} {vs : List V} : RP K H M x v → RPs K H M xs vs → RPs K H M (x :: xs) (v :: vs)
end
section
variable {K : PySem.W.Frag} {H H' : Hp} {M M' : Addr → Prop}
theorem RPs.length : ∀ {xs : List PV} {vs : List V}, RPs K H M xs vs → vs.length = xs.length
  | _, _, .nil => rfl
  | _, _, .cons _ t => by rw [List.length_cons, List.length_cons, RPs.length t]
theorem RPs.get : ∀ {xs : List PV} {vs : List V} {i : Nat} {x : PV}, RPs K H M xs vs → xs[i]? = some x → ∃ v, vs[i]? = some v ∧ RP K H M x v
  | _, _, _, _, .nil, h => by simp at h
  | _, _, 0, _, .cons r _, h => by simp at h; subst h; exact ⟨_, rfl, r⟩
  | _, _, i + 1, _, .cons _ t, h => by
    obtain ⟨v, e, r⟩ := RPs.get (i := i) t (by simpa using h)
    exact ⟨v, by simpa using e, r⟩
theorem RPs.append : ∀ {xs ys : List PV} {vs ws : List V}, RPs K H M xs vs → RPs K H M ys ws → RPs K H M (xs ++ ys) (vs ++ ws)
  | _, _, _, _, .nil, s => s
  | _, _, _, _, .cons r t, s => .cons r (RPs.append t s)
theorem RPs.drop : ∀ {xs : List PV} {vs : List V} (n : Nat), RPs K H M xs vs → RPs K H M (xs.drop n) (vs.drop n)
  | _, _, 0, r => r
  | _, _, _ + 1, .nil => .nil
  | _, _, n + 1, .cons _ t => RPs.drop n t
theorem RPs.take : ∀ {xs : List PV} {vs : List V} (n : Nat), RPs K H M xs vs → RPs K H M (xs.take n) (vs.take n)
  | _, _, 0, _ => .nil
  | _, _, _ + 1, .nil => .nil
  | _, _, n + 1, .cons r t => .cons r (RPs.take n t)
theorem RPs.set {x : PV} {v : V} (r : RP K H M x v) : ∀ {xs : List PV} {vs : List V} (n : Nat), RPs K H M xs vs → RPs K H M (xs.set n x) (vs.set n v)
  | _, _, _, .nil => .nil
  | _, _, 0, .cons _ t => .cons r t
  | _, _, n + 1, .cons q t => .cons q (RPs.set r n t)
theorem RPs.rep {xs : List PV} {vs : List V} (r : RPs K H M xs vs) : ∀ n : Nat, RPs K H M (List.replicate n xs).flatten (List.replicate n vs).flatten
  | 0 => .nil
  | n + 1 => by
    rw [List.replicate_succ, List.replicate_succ, List.flatten_cons, List.flatten_cons]
    exact r.append (RPs.rep r n)
theorem TupAt.mono (hk : ∀ a o, H a = some o → ¬ M a → H' a = some o) (hm : ∀ a, M' a → M a ∨ H a = none) {a : Addr} {vs : List V} (q : TupAt K H M a vs) : TupAt K H' M' a vs := by
  rcases q with ⟨q, n⟩ | q
  · refine .inl ⟨?_, fun z => ?_⟩
    · rcases q with q | ⟨o, q⟩
      · exact .inl (hk _ _ q n)
      · exact .inr ⟨o, hk _ _ q n⟩
    · rcases hm _ z with z | z
      · exact n z
      · rcases q with q | ⟨o, q⟩
        · rw [z] at q; cases q
        · rw [z] at q; cases q
  · exact .inr q
mutual
theorem RP.mono (hk : ∀ a o, H a = some o → ¬ M a → H' a = some o) (hm : ∀ a, M' a → M a ∨ H a = none) : ∀ {x : PV} {v : V}, RP K H M x v → RP K H' M' x v
  | _, _, .non => .non
  | _, _, .bl b => .bl b
  | _, _, .int i => .int i
  | _, _, .str s o => .str s o
  | _, _, .tup q t => .tup (q.mono hk hm) (RPs.mono hk hm t)
  | _, _, .lst q n t => by
    refine .lst (hk _ _ q n) (fun z => ?_) (RPs.mono hk hm t)
    rcases hm _ z with z | z
    · exact n z
    · rw [z] at q; cases q
theorem RPs.mono (hk : ∀ a o, H a = some o → ¬ M a → H' a = some o) (hm : ∀ a, M' a → M a ∨ H a = none) : ∀ {xs : List PV} {vs : List V}, RPs K H M xs vs → RPs K H' M' xs vs
  | _, _, .nil => .nil
  | _, _, .cons r t => .cons (RP.mono hk hm r) (RPs.mono hk hm t)
end
end

/-- where the cells lie -/
structure Mu where
  len : Nat
  fn : Nat → Option Addr
def Mu.own (μ : Mu) (O : Addr → Prop) : Addr → Prop := fun a => O a ∨ ∃ n, μ.fn n = some a

/-- the heap bears the cells; O: further lists that no datum holds -/
structure SR (K : PySem.W.Frag) (μ : Mu) (O : Addr → Prop) (H : Hp) (h : CH) : Prop where
  len : μ.len = h.length
  dom : ∀ n a, μ.fn n = some a → n < μ.len
  inj : ∀ n m a, μ.fn n = some a → μ.fn m = some a → n = m
  dis : ∀ n a, μ.fn n = some a → ¬ O a
  nkO : ∀ a, O a → ∃ vs, H a = some (.lst vs)
  cell : ∀ (n : Nat) xs, h[n]? = some (.lst xs) → ∃ a vs, μ.fn n = some a ∧ H a = some (.lst vs) ∧ RPs K H (μ.own O) xs vs
  live : ∀ n a, μ.fn n = some a → ∃ xs, h[n]? = some (.lst xs)
structure Stp (K : PySem.W.Frag) (μ : Mu) (H : Hp) (μ' : Mu) (H' : Hp) : Prop where
  keep : ∀ a o, H a = some o → (∀ n, μ.fn n ≠ some a) → H' a = some o
  nw : ∀ n a, μ'.fn n = some a → μ.fn n = some a ∨ (H a = none ∧ μ.len ≤ n)
  trk : ∀ a, H a ≠ none → H' a ≠ none
  le : μ.len ≤ μ'.len
/-- a list that nobody changes -/
def KLst (K : PySem.W.Frag) (a : Addr) (xs : List V) : Prop :=
  ∃ (o : Obj) (its : Array Value) (n : Nat), K.lookup a = some o ∧ o.cls = .type "list" ∧ o.dict = none ∧ o.data = .seq its n ∧ its.size ≤ sizeLine ∧ Vals xs its.toList
def LstAt (K : PySem.W.Frag) (H : Hp) (M : Addr → Prop) (a : Addr) (vs : List V) : Prop := (Rd H a (.lst vs) ∧ ¬ M a) ∨ KLst K a vs
theorem LstAt.sqL {K : PySem.W.Frag} {H : Hp} {M : Addr → Prop} {a : Addr} {vs : List V} (q : LstAt K H M a vs) : SqL K H a vs := q.elim (fun z => .inl z.1) .inr
theorem LstAt.mono {K : PySem.W.Frag} {H H' : Hp} {M M' : Addr → Prop} (hk : ∀ a o, H a = some o → ¬ M a → H' a = some o) (hm : ∀ a, M' a → M a ∨ H a = none) {a : Addr} {vs : List V} (q : LstAt K H M a vs) : LstAt K H' M' a vs := by
  rcases q with ⟨q, n⟩ | q
  · refine .inl ⟨?_, fun z => ?_⟩
    · rcases q with q | ⟨o, q⟩
      · exact .inl (hk _ _ q n)
      · exact .inr ⟨o, hk _ _ q n⟩
    · rcases hm _ z with z | z
      · exact n z
      · rcases q with q | ⟨o, q⟩
        · rw [z] at q; cases q
        · rw [z] at q; cases q
  · exact .inr q
inductive RW (K : PySem.W.Frag) (μ : Mu) (O : Addr → Prop) (H : Hp) : VV → V → Prop
  | p {v : PV} {x : V} : RP K H (μ.own O) v x → RW K μ O H (.p v) x
  | r {n : Nat} {x : V} : n < μ.len → (∀ a, μ.fn n = some a → x = .ref a) → RW K μ O H (.r n) x
  | g {a : Addr} {lo hi : Int} : H a = some (.rng lo hi) → ¬ μ.own O a → ((-(2 ^ 62) ≤ lo ∧ lo < 2 ^ 62) ∧ -(2 ^ 62) ≤ hi ∧ hi < 2 ^ 62) → RW K μ O H (.g lo hi) (.ref a)
  | s {a : Addr} {ns : List Int} : LstAt K H (μ.own O) a (ns.map V.int) → RW K μ O H (.s ns) (.ref a)
  | t {x : PV} : RW K μ O H (.t x) (.str (txt x))
inductive RWs (K : PySem.W.Frag) (μ : Mu) (O : Addr → Prop) (H : Hp) : List VV → List V → Prop
  | nil : RWs K μ O H [] []
  | cons {v : VV} {x : V} {vs : List VV} {xs : List V} : RW K μ O H v x → RWs K μ O H vs xs → RWs K μ O H (v :: vs) (x :: xs)
/-- a name's slot -/
def RO (K : PySem.W.Frag) (μ : Mu) (O : Addr → Prop) (H : Hp) : Option VV → Option V → Prop
  | some v, x => ∃ y, x = some y ∧ RW K μ O H v y
  | none, _ => True
structure RE (K : PySem.W.Frag) (μ : Mu) (O : Addr → Prop) (H : Hp) (ρ : Env) (σ : L2.St) : Prop where
  len : ρ.length = σ.length
  at_ : ∀ (i : Nat) v, ρ[i]? = some (some v) → ∃ x, σ[i]? = some (some x) ∧ RW K μ O H v x

section
variable {K : PySem.W.Frag} {μ μ' μ'' : Mu} {O : Addr → Prop} {H H' H'' : Hp} {h h' : CH}
theorem SR.own_lst (s : SR K μ O H h) {a : Addr} (o : μ.own O a) : ∃ vs, H a = some (.lst vs) := by
  rcases o with o | ⟨n, o⟩
  · exact s.nkO a o
  · obtain ⟨xs, e⟩ := s.live n a o
    obtain ⟨b, vs, e1, e2, _⟩ := s.cell n xs e
    rw [o] at e1; cases e1
    exact ⟨vs, e2⟩
theorem SR.not_own_none (s : SR K μ O H h) {a : Addr} (e : H a = none) : ¬ μ.own O a := fun o => by
  obtain ⟨vs, q⟩ := s.own_lst o
  rw [e] at q; cases q
theorem Stp.refl : Stp K μ H μ H := ⟨fun _ _ e _ => e, fun _ _ e => .inl e, fun _ e => e, Nat.le_refl _⟩
theorem Stp.keepM (t : Stp K μ H μ' H') : ∀ a o, H a = some o → ¬ μ.own O a → H' a = some o := fun a o e n => t.keep a o e fun m z => n (.inr ⟨m, z⟩)
theorem Stp.ownM (t : Stp K μ H μ' H') : ∀ a, μ'.own O a → μ.own O a ∨ H a = none := fun a o => by
  rcases o with o | ⟨n, o⟩
  · exact .inl (.inl o)
  · rcases t.nw n a o with z | ⟨z1, _⟩
    · exact .inl (.inr ⟨n, z⟩)
    · exact .inr z1
theorem Stp.trans (t : Stp K μ H μ' H') (u : Stp K μ' H' μ'' H'') : Stp K μ H μ'' H'' where
  keep := fun a o e n => u.keep a o (t.keep a o e n) fun m z => by
    rcases t.nw m a z with z | ⟨z, _⟩
    · exact n m z
    · rw [e] at z; cases z
  nw := fun n a e => by
    rcases u.nw n a e with z | ⟨z1, z3⟩
    · exact t.nw n a z
    · refine .inr ⟨?_, Nat.le_trans t.le z3⟩
      cases hq : H a with
      | none => rfl
      | some o => exact absurd z1 (t.trk a (by rw [hq]; simp))
  trk := fun a e => u.trk a (t.trk a e)
  le := Nat.le_trans t.le u.le
theorem RP.step (t : Stp K μ H μ' H') {x : PV} {v : V} (r : RP K H (μ.own O) x v) : RP K H' (μ'.own O) x v := r.mono t.keepM t.ownM
theorem RPs.step (t : Stp K μ H μ' H') {x : List PV} {v : List V} (r : RPs K H (μ.own O) x v) : RPs K H' (μ'.own O) x v := r.mono t.keepM t.ownM
theorem Stp.not_own (t : Stp K μ H μ' H') {a : Addr} (n : ¬ μ.own O a) (h : H a ≠ none) : ¬ μ'.own O a := fun z => by
  rcases t.ownM a z with z | z1
  · exact n z
  · exact h z1
theorem RW.step (t : Stp K μ H μ' H') {x : VV} {v : V} (r : RW K μ O H x v) : RW K μ' O H' x v := by
  cases r with
  | p r => exact .p (r.step t)
  | r n e =>
    refine .r (Nat.lt_of_lt_of_le n t.le) fun a z => ?_
    rcases t.nw _ a z with z | ⟨_, z⟩
    · exact e a z
    · omega
  | g e n b => exact .g (t.keepM _ _ e n) (t.not_own n (by rw [e]; simp)) b
  | s q => exact .s (q.mono t.keepM t.ownM)
  | t => exact .t
theorem RWs.step (t : Stp K μ H μ' H') : ∀ {x : List VV} {v : List V}, RWs K μ O H x v → RWs K μ' O H' x v
  | _, _, .nil => .nil
  | _, _, .cons r s => .cons (r.step t) (RWs.step t s)
theorem RE.step (t : Stp K μ H μ' H') {ρ : Env} {σ : L2.St} (r : RE K μ O H ρ σ) : RE K μ' O H' ρ σ :=
  ⟨r.len, fun i v e => let ⟨x, e1, r1⟩ := r.at_ i v e; ⟨x, e1, r1.step t⟩⟩
theorem RE.set {ρ : Env} {σ : L2.St} (r : RE K μ O H ρ σ) {v : VV} {x : V} (q : RW K μ O H v x) (i : Nat) : RE K μ O H (ρ.set i (some v)) (σ.set i (some x)) := by
  refine ⟨by rw [List.length_set, List.length_set]; exact r.len, fun j w e => ?_⟩
  by_cases hj : i = j
  · subst hj
    by_cases hi : i < ρ.length
    · rw [List.getElem?_set_self hi] at e
      cases e
      exact ⟨x, List.getElem?_set_self (by rw [← r.len]; exact hi), q⟩
    · rw [List.getElem?_eq_none (by rw [List.length_set]; omega)] at e; cases e
  · rw [List.getElem?_set_ne hj] at e
    rw [List.getElem?_set_ne hj]
    exact r.at_ j w e
theorem RE.wipe {ρ : Env} {σ : L2.St} (r : RE K μ O H ρ σ) : ∀ vs : List Nat, RE K μ O H (wipe ρ vs) (L2.wipe σ vs)
  | [] => r
  | i :: vs => by
    have q := RE.wipe r vs
    refine ⟨by unfold Br.wipe L2.wipe; rw [List.length_set, List.length_set]; exact q.len, fun j w e => ?_⟩
    unfold Br.wipe at e
    unfold L2.wipe
    by_cases hj : i = j
    · subst hj
      by_cases hi : i < (Br.wipe ρ vs).length
      · rw [List.getElem?_set_self hi] at e; cases e
      · rw [List.getElem?_eq_none (by rw [List.length_set]; omega)] at e; cases e
    · rw [List.getElem?_set_ne hj] at e
      rw [List.getElem?_set_ne hj]
      exact q.at_ j w e
/-- a new object that no cell holds -/
theorem Stp.new {p : Addr} {o : HO} (hp : H p = none) : Stp K μ H μ (upd H p o) where
  keep := fun a o' e _ => by rw [upd_ne (ne_of_none e hp)]; exact e
  nw := fun n a e => .inl e
  trk := fun a e => by
    unfold upd
    split
    · simp
    · exact e
  le := Nat.le_refl _
theorem SR.step (s : SR K μ O H h) (t : Stp K μ H μ H') (hc : ∀ n a, μ.fn n = some a → H' a = H a) : SR K μ O H' h where
  len := s.len
  dom := s.dom
  inj := s.inj
  dis := s.dis
  nkO := fun a o => by
    obtain ⟨vs, e⟩ := s.nkO a o
    exact ⟨vs, t.keep a _ e fun n z => s.dis n a z o⟩
  cell := fun n xs e => by
    obtain ⟨a, vs, e1, e2, r⟩ := s.cell n xs e
    exact ⟨a, vs, e1, by rw [hc n a e1]; exact e2, r.step t⟩
  live := s.live
theorem SR.new (s : SR K μ O H h) {p : Addr} {o : HO} (hp : H p = none) : SR K μ O (upd H p o) h :=
  s.step (Stp.new hp) fun n a e => by
    obtain ⟨vs, q⟩ := s.own_lst (.inr ⟨n, e⟩)
    exact upd_ne (ne_of_none q hp)
/-- a new tuple, a new list, of known things -/
theorem RP.newT (s : SR K μ O H h) {p : Addr} (hp : H p = none) {xs : List PV} {vs : List V} (r : RPs K H (μ.own O) xs vs) : RP K (upd H p (.tup vs)) (μ.own O) (.tup xs) (.ref p) :=
  .tup (.inl ⟨.inl upd_same, s.not_own_none hp⟩) (r.step (Stp.new hp))
theorem RP.newL (s : SR K μ O H h) {p : Addr} (hp : H p = none) {xs : List PV} {vs : List V} (r : RPs K H (μ.own O) xs vs) : RP K (upd H p (.lst vs)) (μ.own O) (.lst xs) (.ref p) :=
  .lst upd_same (s.not_own_none hp) (r.step (Stp.new hp))
/-- a list's place becomes a cell -/
def Mu.add (μ : Mu) (p : Addr) : Mu := ⟨μ.len + 1, fun n => if n = μ.len then some p else μ.fn n⟩
theorem SR.fn_ge (s : SR K μ O H h) {n : Nat} (e : μ.len ≤ n) : μ.fn n = none := by
  cases q : μ.fn n with
  | none => rfl
  | some a => have := s.dom n a q; omega
theorem Mu.add_own {p a : Addr} : (μ.add p).own O a → μ.own O a ∨ a = p := by
  rintro (o | ⟨n, e⟩)
  · exact .inl (.inl o)
  · unfold Mu.add at e
    simp only at e
    split at e
    · exact .inr (by cases e; rfl)
    · exact .inl (.inr ⟨n, e⟩)
theorem Stp.cell (s : SR K μ O H h) {p : Addr} {o : HO} (hp : H p = none) : Stp K μ H (μ.add p) (upd H p o) where
  keep := fun a o' e _ => by rw [upd_ne (ne_of_none e hp)]; exact e
  nw := fun n a e => by
    unfold Mu.add at e
    simp only at e
    split at e
    · rename_i z
      cases e
      exact .inr ⟨hp, by omega⟩
    · exact .inl e
  trk := (Stp.new (K := K) (μ := μ) hp).trk
  le := Nat.le_succ _
theorem SR.cellAdd (s : SR K μ O H h) {p : Addr} (hp : H p = none) {xs : List PV} {vs : List V} (r : RPs K H (μ.own O) xs vs) : SR K (μ.add p) O (upd H p (.lst vs)) (h ++ [.lst xs]) := by
  have t := Stp.cell (o := .lst vs) s hp
  have np : ∀ n, μ.fn n ≠ some p := fun n e => by
    obtain ⟨ws, q⟩ := s.own_lst (.inr ⟨n, e⟩)
    rw [hp] at q; cases q
  refine ⟨?_, fun n a e => ?_, fun n m a e1 e2 => ?_, fun n a e o => ?_, fun a o => ?_, fun n ys e => ?_, fun n a e => ?_⟩
  · show μ.len + 1 = _
    rw [List.length_append, s.len]; rfl
  · unfold Mu.add at e ⊢
    simp only at e ⊢
    split at e
    · omega
    · have := s.dom n a e; omega
  · unfold Mu.add at e1 e2
    simp only at e1 e2
    split at e1 <;> split at e2
    · omega
    · cases e1; exact absurd e2 (np m)
    · cases e2; exact absurd e1 (np n)
    · exact s.inj n m a e1 e2
  · unfold Mu.add at e
    simp only at e
    split at e
    · cases e
      obtain ⟨ws, q⟩ := s.nkO _ o
      rw [hp] at q; cases q
    · exact s.dis n a e o
  · obtain ⟨ws, e⟩ := s.nkO a o
    exact ⟨ws, by rw [upd_ne (ne_of_none e hp)]; exact e⟩
  · by_cases hn : n < h.length
    · rw [List.getElem?_append_left hn] at e
      obtain ⟨a, ws, e1, e2, q⟩ := s.cell n ys e
      refine ⟨a, ws, ?_, by rw [upd_ne (ne_of_none e2 hp)]; exact e2, q.step t⟩
      show (if n = μ.len then some p else μ.fn n) = some a
      rw [if_neg (by rw [s.len]; omega)]; exact e1
    · rw [List.getElem?_append_right (by omega)] at e
      have hz : n - h.length = 0 := by
        cases q : n - h.length with
        | zero => rfl
        | succ m => rw [q] at e; simp at e
      rw [hz] at e
      simp at e
      subst e
      refine ⟨p, vs, ?_, upd_same, r.step t⟩
      show (if n = μ.len then some p else μ.fn n) = some p
      rw [if_pos (by rw [s.len]; omega)]
  · have e' : (if n = μ.len then some p else μ.fn n) = some a := e
    split at e'
    · rename_i z
      refine ⟨xs, ?_⟩
      rw [z, s.len, List.getElem?_append_right (Nat.le_refl _)]
      simp
    · obtain ⟨ys, q⟩ := s.live n a e'
      refine ⟨ys, ?_⟩
      rw [List.getElem?_append_left (by have := s.dom n a e'; rw [s.len] at this; exact this)]
      exact q
/-- a cell is written -/
theorem Stp.write {n : Nat} {a : Addr} {o : HO} (e : μ.fn n = some a) : Stp K μ H μ (upd H a o) where
  keep := fun b o' q z => by rw [upd_ne (fun y => z n (by rw [y]; exact e))]; exact q
  nw := fun _ _ q => .inl q
  trk := fun b q => by
    unfold upd
    split
    · simp
    · exact q
  le := Nat.le_refl _
theorem SR.write (s : SR K μ O H h) {n : Nat} {a : Addr} (e : μ.fn n = some a) {xs : List PV} {vs : List V} (r : RPs K H (μ.own O) xs vs) : SR K μ O (upd H a (.lst vs)) (h.set n (.lst xs)) := by
  have t : Stp K μ H μ (upd H a (.lst vs)) := Stp.write e
  have hn : n < h.length := by have := s.dom n a e; rw [s.len] at this; exact this
  refine ⟨by rw [List.length_set]; exact s.len, s.dom, s.inj, s.dis, fun b o => ?_, fun m ys q => ?_, fun m b q => ?_⟩
  · obtain ⟨ws, q⟩ := s.nkO b o
    exact ⟨ws, by rw [upd_ne (fun z => s.dis n a e (by rw [← z]; exact o))]; exact q⟩
  · by_cases hm : n = m
    · subst hm
      rw [List.getElem?_set_self hn] at q
      cases q
      exact ⟨a, vs, e, upd_same, r.step t⟩
    · rw [List.getElem?_set_ne hm] at q
      obtain ⟨b, ws, e1, e2, rr⟩ := s.cell m ys q
      exact ⟨b, ws, e1, by rw [upd_ne (fun z => hm (s.inj n m a e (by rw [← z]; exact e1)))]; exact e2, rr.step t⟩
  · by_cases hm : n = m
    · subst hm
      exact ⟨xs, List.getElem?_set_self hn⟩
    · obtain ⟨ys, q2⟩ := s.live m b q
      exact ⟨ys, by rw [List.getElem?_set_ne hm]; exact q2⟩
/-- a cell is let go: its list is a value from now on -/
def Mu.del (μ : Mu) (n : Nat) : Mu := ⟨μ.len, fun m => if m = n then none else μ.fn m⟩
theorem Mu.del_fn {n m : Nat} {a : Addr} (e : (μ.del n).fn m = some a) : m ≠ n ∧ μ.fn m = some a := by
  unfold Mu.del at e
  simp only at e
  split at e
  · cases e
  · exact ⟨by assumption, e⟩
theorem Stp.del {n : Nat} : Stp K μ H (μ.del n) H := ⟨fun _ _ e _ => e, fun m a e => .inl (Mu.del_fn e).2, fun _ e => e, Nat.le_refl _⟩
theorem SR.del (s : SR K μ O H h) {n : Nat} : SR K (μ.del n) O H (h.set n .dead) := by
  refine ⟨by rw [List.length_set]; exact s.len, fun m a e => s.dom m a (Mu.del_fn e).2, fun m k a e1 e2 => s.inj m k a (Mu.del_fn e1).2 (Mu.del_fn e2).2, fun m a e => s.dis m a (Mu.del_fn e).2, s.nkO, fun m ys q => ?_, fun m b q => ?_⟩
  · by_cases hm : n = m
    · subst hm
      by_cases hn : n < h.length
      · rw [List.getElem?_set_self hn] at q; cases q
      · rw [List.getElem?_eq_none (by rw [List.length_set]; omega)] at q; cases q
    · rw [List.getElem?_set_ne hm] at q
      obtain ⟨b, ws, e1, e2, rr⟩ := s.cell m ys q
      refine ⟨b, ws, ?_, e2, rr.step Stp.del⟩
      show (if m = n then none else μ.fn m) = some b
      rw [if_neg (Ne.symm hm)]; exact e1
  · obtain ⟨h1, h2⟩ := Mu.del_fn q
    obtain ⟨ys, q2⟩ := s.live m b h2
    exact ⟨ys, by rw [List.getElem?_set_ne (Ne.symm h1)]; exact q2⟩
theorem SR.frozen (s : SR K μ O H h) {n : Nat} {xs : List PV} (e : h[n]? = some (.lst xs)) : ∃ a, μ.fn n = some a ∧ RP K H ((μ.del n).own O) (.lst xs) (.ref a) := by
  obtain ⟨a, vs, e1, e2, r⟩ := s.cell n xs e
  refine ⟨a, e1, .lst e2 (fun z => ?_) (r.step Stp.del)⟩
  rcases z with z | ⟨m, z⟩
  · exact s.dis n a e1 z
  · obtain ⟨z1, z2⟩ := Mu.del_fn z
    exact z1 (s.inj m n a z2 e1)
/-- the cells that a call made are let go -/
def Mu.cut (μ : Mu) (k : Nat) : Mu := ⟨k, fun m => if m < k then μ.fn m else none⟩
theorem Mu.cut_fn {k m : Nat} {a : Addr} (e : (μ.cut k).fn m = some a) : m < k ∧ μ.fn m = some a := by
  unfold Mu.cut at e
  simp only at e
  split at e
  · exact ⟨by assumption, e⟩
  · cases e
theorem Mu.cut_own {k : Nat} {a : Addr} : (μ.cut k).own O a → μ.own O a := by
  rintro (o | ⟨n, e⟩)
  · exact .inl o
  · exact .inr ⟨n, (Mu.cut_fn e).2⟩
theorem RP.cut {k : Nat} {x : PV} {v : V} (r : RP K H (μ.own O) x v) : RP K H ((μ.cut k).own O) x v := r.mono (fun _ _ e _ => e) fun a z => .inl (Mu.cut_own z)
theorem SR.cut (s : SR K μ O H h) {k : Nat} (hk : k ≤ h.length) : SR K (μ.cut k) O H (h.take k) := by
  refine ⟨?_, fun m a e => (Mu.cut_fn e).1, fun m j a e1 e2 => s.inj m j a (Mu.cut_fn e1).2 (Mu.cut_fn e2).2, fun m a e => s.dis m a (Mu.cut_fn e).2, s.nkO, fun m ys q => ?_, fun m b q => ?_⟩
  · show k = _
    rw [List.length_take]; omega
  · have hm : m < k := by
      by_cases hm : m < k
      · exact hm
      · rw [List.getElem?_eq_none (by rw [List.length_take]; omega)] at q; cases q
    rw [List.getElem?_take_of_lt hm] at q
    obtain ⟨b, ws, e1, e2, rr⟩ := s.cell m ys q
    refine ⟨b, ws, ?_, e2, rr.mono (fun _ _ e _ => e) fun a z => .inl (Mu.cut_own z)⟩
    show (if m < k then μ.fn m else none) = some b
    rw [if_pos hm]; exact e1
  · obtain ⟨h1, h2⟩ := Mu.cut_fn q
    obtain ⟨ys, q2⟩ := s.live m b h2
    exact ⟨ys, by rw [List.getElem?_take_of_lt h1]; exact q2⟩
theorem Stp.cut (t : Stp K μ H μ' H') : Stp K μ H (μ'.cut μ.len) H' where
  keep := t.keep
  nw := fun n a e => t.nw n a (Mu.cut_fn e).2
  trk := t.trk
  le := Nat.le_refl _
end
end Br

set_option autoImplicit false
set_option linter.all false
set_option maxRecDepth 100000
/-! The layer's readings by what runs; operations on data. -/
namespace Br
open PySem PySem.Spec PyProof.Rows L2

section
variable {X : Cx}
def tS (X : Cx) (e : Expr) : TE := fun σ H Q => ∀ (pins : List (Addr × Obj)) (s : Shared), Inv X pins σ H s → wpAny (model X.prog X.w) X.A (eval e X.env) (EP X pins σ Q) X.xe s
def tTS (X : Cx) (e : Expr) : TT := fun σ H Q => ∀ (pins : List (Addr × Obj)) (s : Shared), Inv X pins σ H s → wpAny (model X.prog X.w) X.A (isTrue e X.env (eval e X.env)) (TP X pins σ Q) X.xe s
def tWS (X : Cx) (e : Expr) : TT := fun σ H Q => ∀ (whole : Sem Value) (pins : List (Addr × Obj)) (s : Shared), Inv X pins σ H s → wpAny (model X.prog X.w) X.A (isTrue e X.env whole) (TP X pins σ Q) X.xe s
def tAS (X : Cx) (es : List Expr) : TA := fun σ H Q => ∀ (pos : Pos) (pins : List (Addr × Obj)) (s : Shared), Inv X pins σ H s → wpAny (model X.prog X.w) X.A (spliced (backTo pos (starEach es X.env))) (AP X pins σ Q) X.xe s
def tIS (X : Cx) (tg it : Expr) : TI := fun σ H R => ∀ (pins : List (Addr × Obj)) (s : Shared), Inv X pins σ H s → wpAny (model X.prog X.w) X.A (eval it X.env) (fun v s1 => wpAny (model X.prog X.w) X.A (pyIter v) (PIE X pins σ tg R) X.xe s1) X.xe s
def sS (X : Cx) (st : Stmt) : TS := fun D σ H => ∀ (pins : List (Addr × Obj)) (s : Shared), Inv X pins σ H s → wpAny (model X.prog X.w) X.A (exec st X.env) (SP X pins D) X.xe s
def ssS (X : Cx) (st : List Stmt) : TS := fun D σ H => ∀ (pins : List (Addr × Obj)) (s : Shared), Inv X pins σ H s → wpAny (model X.prog X.w) X.A (execs st X.env) (SP X pins D) X.xe s
def gS (X : Cx) (tg : Expr) : TG := fun v σ H Q => ∀ (pins : List (Addr × Obj)) (s : Shared) (u : Value), Inv X pins σ H s → RelV v u → wpAny (model X.prog X.w) X.A (assign tg X.env u) (fun _ s' => ∃ σ' H', Inv X pins σ' H' s' ∧ Q σ' H') X.xe s
def gsS (X : Cx) (ts : List Expr) : TGs := fun vs σ H Q => ∀ (pins : List (Addr × Obj)) (s : Shared) (us : List Value), Inv X pins σ H s → Vals vs us → wpAny (model X.prog X.w) X.A (assignInOrder ((assignEach ts X.env).map (·.2)) us) (fun _ s' => ∃ σ' H', Inv X pins σ' H' s' ∧ Q σ' H') X.xe s
def oS (X : Cx) (f : Value → Value → Sem Value) : R2 := fun x y H Q => ∀ (pins : List (Addr × Obj)) (s : Shared) (σ : L2.St) (v u : Value), Inv X pins σ H s → RelV x v → RelV y u → wpAny (model X.prog X.w) X.A (f v u) (EP X pins σ Q) X.xe s
def cS (X : Cx) (f : Value) : List V → Hp → VK → Prop := fun xs H Q => ∀ (pins : List (Addr × Obj)) (s : Shared) (σ : L2.St) (us : List Value), Inv X pins σ H s → Vals xs us → wpAny (model X.prog X.w) X.A (call f us) (EP X pins σ Q) X.xe s
theorem pe_S {e : Expr} : PE X e (tS X e) := ⟨fun pins s _ _ _ I h => h pins s I⟩
theorem pt_S {e : Expr} : PT X e (tTS X e) := ⟨fun pins s _ _ _ I h => h pins s I⟩
theorem pw_S {e : Expr} : PW X e (tWS X e) := ⟨fun wh pins s _ _ _ I h => h wh pins s I⟩
theorem pa_S {es : List Expr} : PA X es (tAS X es) := ⟨fun pos pins s _ _ _ I h => h pos pins s I⟩
theorem pi_S {tg it : Expr} : PI X tg it (tIS X tg it) := ⟨fun pins s _ _ _ I h => h pins s I⟩
theorem ps_S {st : Stmt} : PS X st (sS X st) := ⟨fun pins s _ _ _ I h => h pins s I⟩
theorem pss_S {st : List Stmt} : PSs X st (ssS X st) := ⟨fun pins s _ _ _ I h => h pins s I⟩
theorem pg_S {tg : Expr} : PG X tg (gS X tg) := ⟨fun pins s _ _ _ u _ I r h => h pins s u I r⟩
theorem pgs_S {ts : List Expr} : PGs X ts (gsS X ts) := ⟨fun pins s _ _ _ us _ I r h => h pins s us I r⟩
theorem op_S {f : Value → Value → Sem Value} : OpR X f (oS X f) := fun pins s σ _ _ _ v u _ I rx ry h => h pins s σ v u I rx ry
theorem call_S {f : Value} : CallR X f (cS X f) := fun pins s σ _ _ us _ I r h => h pins s σ us I r
theorem tS.of {e : Expr} {t : TE} {σ : L2.St} {H : Hp} {Q : VK} (h : PE X e t) (q : t σ H Q) : tS X e σ H Q := fun pins s I => h.run pins s σ H Q I q
theorem tTS.of {e : Expr} {t : TT} {σ : L2.St} {H : Hp} {Q : Bool → Hp → Prop} (h : PT X e t) (q : t σ H Q) : tTS X e σ H Q := fun pins s I => h.run pins s σ H Q I q
theorem tWS.of {e : Expr} {t : TT} {σ : L2.St} {H : Hp} {Q : Bool → Hp → Prop} (h : PW X e t) (q : t σ H Q) : tWS X e σ H Q := fun wh pins s I => h.run wh pins s σ H Q I q
theorem tAS.of {e : List Expr} {t : TA} {σ : L2.St} {H : Hp} {Q : List V → Hp → Prop} (h : PA X e t) (q : t σ H Q) : tAS X e σ H Q := fun pos pins s I => h.run pos pins s σ H Q I q
theorem tIS.of {tg e : Expr} {t : TI} {σ : L2.St} {H : Hp} {Q : It → Hp → Prop} (h : PI X tg e t) (q : t σ H Q) : tIS X tg e σ H Q := fun pins s I => h.run pins s σ H Q I q
theorem sS.of {e : Stmt} {t : TS} {σ : L2.St} {H : Hp} {D : Ends} (h : PS X e t) (q : t D σ H) : sS X e D σ H := fun pins s I => h.run pins s σ H D I q
theorem ssS.of {e : List Stmt} {t : TS} {σ : L2.St} {H : Hp} {D : Ends} (h : PSs X e t) (q : t D σ H) : ssS X e D σ H := fun pins s I => h.run pins s σ H D I q
theorem gS.of {e : Expr} {t : TG} {v : V} {σ : L2.St} {H : Hp} {Q : L2.St → Hp → Prop} (h : PG X e t) (q : t v σ H Q) : gS X e v σ H Q := fun pins s u I r => h.run pins s σ H v u Q I r q
theorem gsS.of {e : List Expr} {t : TGs} {v : List V} {σ : L2.St} {H : Hp} {Q : L2.St → Hp → Prop} (h : PGs X e t) (q : t v σ H Q) : gsS X e v σ H Q := fun pins s u I r => h.run pins s σ H v u Q I r q
theorem oS.of {f : Value → Value → Sem Value} {r : R2} {x y : V} {H : Hp} {Q : VK} (h : OpR X f r) (q : r x y H Q) : oS X f x y H Q := fun pins s σ v u I rx ry => h pins s σ H x y v u Q I rx ry q
theorem cS.of {f : Value} {r : List V → Hp → VK → Prop} {x : List V} {H : Hp} {Q : VK} (h : CallR X f r) (q : r x H Q) : cS X f x H Q := fun pins s σ us I rx => h pins s σ H x us Q I rx q
/-- what is tracked stands not in the written part -/
def NK (K : PySem.W.Frag) (H : Hp) : Prop := ∀ a o, H a = some o → K.lookup a = none
theorem nk_of {pins : List (Addr × Obj)} {σ : L2.St} {H : Hp} {s : Shared} (I : Inv X pins σ H s) : NK X.K H := fun a o e => by
  cases q : X.K.lookup a with
  | none => rfl
  | some ob =>
    have := (I.bs a ob (I.mod.kin a ob q)).2
    rw [e] at this; cases this
theorem tS.nk {e : Expr} {σ : L2.St} {H : Hp} {Q : VK} (h : tS X e σ H fun x H' => NK X.K H' → Q x H') : tS X e σ H Q := fun pins s I =>
  thn (h pins s I) fun u s' ⟨x, H', I', r, q⟩ => ⟨x, H', I', r, q (nk_of I')⟩
theorem tS.mono {e : Expr} {σ : L2.St} {H : Hp} {Q Q' : VK} (h : tS X e σ H Q) (hq : ∀ x H', Q x H' → Q' x H') : tS X e σ H Q' := fun pins s I =>
  thn (h pins s I) fun u s' ⟨x, H', I', r, q⟩ => ⟨x, H', I', r, hq x H' q⟩
end

/-! ### data as the library's -/
theorem strOf_beq (a b : List Nat) : (strOf a == strOf b) = (a == b) := by
  by_cases e : a = b
  · subst e; simp
  · rw [beq_eq_false_iff_ne.mpr e, beq_eq_false_iff_ne.mpr fun z => e (strOf_inj z)]
mutual
theorem eqv_toD : ∀ a b : PV, PyData.eqv a.toD b.toD = PV.eqv a b
  | .non, b => by cases b <;> simp [PV.toD, PyData.eqv, PV.eqv]
  | .bl x, b => by cases b <;> simp [PV.toD, PyData.eqv, PV.eqv, b2i]
  | .int x, b => by cases b <;> simp [PV.toD, PyData.eqv, PV.eqv, b2i]
  | .str x, b => by cases b <;> simp [PV.toD, PyData.eqv, PV.eqv, strOf_beq]
  | .tup xs, b => by
    cases b with
    | tup ys => simp only [PV.toD, PyData.eqv, PV.eqv]; exact eqvL_toDs xs ys
    | _ => simp [PV.toD, PyData.eqv, PV.eqv]
  | .lst xs, b => by
    cases b with
    | lst ys => simp only [PV.toD, PyData.eqv, PV.eqv]; exact eqvL_toDs xs ys
    | _ => simp [PV.toD, PyData.eqv, PV.eqv]
theorem eqvL_toDs : ∀ a b : List PV, PyData.eqvAll (PV.toDs a) (PV.toDs b) = PV.eqvL a b
  | [], b => by cases b <;> simp [PV.toDs, PyData.eqvAll, PV.eqvL]
  | x :: xs, b => by
    cases b with
    | nil => simp [PV.toDs, PyData.eqvAll, PV.eqvL]
    | cons y ys => simp only [PV.toDs, PyData.eqvAll, PV.eqvL]; rw [eqv_toD x y, eqvL_toDs xs ys]
end
mutual
theorem depth_toD : ∀ (d : Nat) (a : PV), PV.dle d a = true → a.toD.depth ≤ d
  | d, .non, _ => by simp [PV.toD, PyData.depth]
  | d, .bl _, _ => by simp [PV.toD, PyData.depth]
  | d, .int _, _ => by simp [PV.toD, PyData.depth]
  | d, .str _, _ => by simp [PV.toD, PyData.depth]
  | 0, .tup _, h => by simp [PV.dle] at h
  | 0, .lst _, h => by simp [PV.dle] at h
  | d + 1, .tup xs, h => by
    have := depth_toDs d xs (by simpa [PV.dle] using h)
    simp only [PV.toD, PyData.depth]; omega
  | d + 1, .lst xs, h => by
    have := depth_toDs d xs (by simpa [PV.dle] using h)
    simp only [PV.toD, PyData.depth]; omega
theorem depth_toDs : ∀ (d : Nat) (a : List PV), PV.dleL d a = true → PyData.depthAll (PV.toDs a) ≤ d
  | d, [], _ => by simp [PV.toDs, PyData.depthAll]
  | d, x :: xs, h => by
    have h' : PV.dle d x = true ∧ PV.dleL d xs = true := by simpa [PV.dleL] using h
    have h1 := depth_toD d x h'.1
    have h2 := depth_toDs d xs h'.2
    simp only [PV.toDs, PyData.depthAll]; omega
end
/-! ### a value as it is now -/
inductive RT (K : PySem.W.Frag) (H : Hp) (M : Addr → Prop) : PV → V → Prop
  | of {x : PV} {v : V} : RP K H M x v → RT K H M x v
  | own {a : Addr} {vs : List V} {xs : List PV} : H a = some (.lst vs) → RPs K H M xs vs → RT K H M (.lst xs) (.ref a)
inductive RTs (K : PySem.W.Frag) (H : Hp) (M : Addr → Prop) : List PV → List V → Prop
  | nil : RTs K H M [] []
  | cons {x : PV} {v : V} {xs : List PV} {vs : List V} : RT K H M x v → RTs K H M xs vs → RTs K H M (x :: xs) (v :: vs)
section
variable {K : PySem.W.Frag} {H : Hp} {M : Addr → Prop}
theorem RT.int {i : Int} {x : V} (r : RT K H M (.int i) x) : x = .int i := by cases r with | of r => cases r; rfl
theorem RT.bl {i : Bool} {x : V} (r : RT K H M (.bl i) x) : x = .bl i := by cases r with | of r => cases r; rfl
theorem RT.non {x : V} (r : RT K H M .non x) : x = .non := by cases r with | of r => cases r; rfl
theorem RT.str {s : List Nat} {x : V} (r : RT K H M (.str s) x) : x = .str (strOf s) ∧ okS s = true := by
  cases r with
  | of r => cases r with | str _ o => exact ⟨rfl, o⟩
theorem RT.tup {xs : List PV} {x : V} (r : RT K H M (.tup xs) x) : ∃ a vs, x = .ref a ∧ SqT K H a vs ∧ TupAt K H M a vs ∧ RPs K H M xs vs := by
  cases r with
  | of r => cases r with | tup q t => exact ⟨_, _, rfl, q.sqT, q, t⟩
theorem RT.lst {xs : List PV} {x : V} (r : RT K H M (.lst xs) x) : ∃ a vs, x = .ref a ∧ H a = some (.lst vs) ∧ RPs K H M xs vs := by
  cases r with
  | of r => cases r with | lst q n t => exact ⟨_, _, rfl, q, t⟩
  | own q t => exact ⟨_, _, rfl, q, t⟩
mutual
theorem RP.dp : ∀ {p : PV} {x : V}, RP K H M p x → Dp K H x p.toD
  | _, _, .non => by rw [PV.toD]; exact .non
  | _, _, .bl b => by rw [PV.toD]; exact .bl b
  | _, _, .int i => by rw [PV.toD]; exact .int i
  | _, _, .str s _ => by rw [PV.toD]; exact .str _
  | _, _, .tup q t => by rw [PV.toD]; exact .tup q.sqT (RPs.dp t)
  | _, _, .lst q _ t => by rw [PV.toD]; exact .lst (SqL.of q) (RPs.dp t)
theorem RPs.dp : ∀ {p : List PV} {x : List V}, RPs K H M p x → DpAll K H x (PV.toDs p)
  | _, _, .nil => by rw [PV.toDs]; exact .nil
  | _, _, .cons r t => by rw [PV.toDs]; exact .cons (RP.dp r) (RPs.dp t)
end
mutual
theorem RP.lay : ∀ {p : PV} {x : V}, RP K H M p x → p.toD.canLay0 = true
  | _, _, .non => by simp [PV.toD, PyData.canLay0]
  | _, _, .bl b => by simp [PV.toD, PyData.canLay0]
  | _, _, .int i => by simp [PV.toD, PyData.canLay0]
  | _, _, .str s o => by
    have h : s.all (· < 1114112) = true := by
      unfold okS at o
      exact (Bool.and_eq_true_iff.mp o).1
    rw [PV.toD, PyData.canLay0]
    unfold PyData.strOk strOf
    rw [← Array.all_toList]
    exact h
  | _, _, .tup q t => by rw [PV.toD, PyData.canLay0]; exact RPs.lay t
  | _, _, .lst q _ t => by rw [PV.toD, PyData.canLay0]; exact RPs.lay t
theorem RPs.lay : ∀ {p : List PV} {x : List V}, RPs K H M p x → PyData.canLayAll0 (PV.toDs p) = true
  | _, _, .nil => by simp [PV.toDs, PyData.canLayAll0]
  | _, _, .cons r t => by rw [PV.toDs, PyData.canLayAll0, RP.lay r, RPs.lay t]; rfl
end
theorem RT.dp {p : PV} {x : V} (r : RT K H M p x) : Dp K H x p.toD := by
  cases r with
  | of r => exact r.dp
  | own q t => rw [PV.toD]; exact .lst (SqL.of q) t.dp
theorem RT.lay {p : PV} {x : V} (r : RT K H M p x) : p.toD.canLay0 = true := by
  cases r with
  | of r => exact r.lay
  | own q t => rw [PV.toD, PyData.canLay0]; exact t.lay
end
section
variable {K : PySem.W.Frag} {μ : Mu} {O : Addr → Prop} {H : Hp} {h : CH}
theorem look_rt (s : SR K μ O H h) {v : VV} {x : V} (r : RW K μ O H v x) {p : PV} (e : look h v = some p) : RT K H (μ.own O) p x := by
  cases r with
  | p r => cases e; exact .of r
  | @r n _ hn hx =>
    unfold look at e
    simp only at e
    split at e
    · rename_i xs q
      cases e
      obtain ⟨a, vs, e1, e2, t⟩ := s.cell n xs q
      rw [hx a e1]
      exact .own e2 t
    · cases e
  | g _ _ _ => cases e
  | s _ => cases e
  | t => cases e
theorem lookAll_rt (s : SR K μ O H h) : ∀ {v : List VV} {x : List V}, RWs K μ O H v x → ∀ {p : List PV}, lookAll h v = some p → RTs K H (μ.own O) p x
  | _, _, .nil, _, e => by cases e; exact .nil
  | _, _, .cons r t, p, e => by
    unfold lookAll at e
    obtain ⟨a, e1, e2⟩ := Option.bind_eq_some_iff.mp e
    obtain ⟨b, e3, e4⟩ := Option.map_eq_some_iff.mp e2
    subst e4
    exact .cons (look_rt s r e1) (lookAll_rt s t e3)
theorem pursOf_rp : ∀ {v : List VV} {x : List V}, RWs K μ O H v x → ∀ {p : List PV}, pursOf v = some p → RPs K H (μ.own O) p x
  | _, _, .nil, _, e => by cases e; exact .nil
  | _, _, .cons (v := v) r t, p, e => by
    unfold pursOf at e
    obtain ⟨a, e1, e2⟩ := Option.bind_eq_some_iff.mp e
    obtain ⟨b, e3, e4⟩ := Option.map_eq_some_iff.mp e2
    subst e4
    cases v with
    | p v => cases e1; cases r with | p r => exact .cons r (pursOf_rp t e3)
    | r n => cases e1
    | g a b => cases e1
    | s ns => cases e1
    | t x => cases e1
end
end Br

set_option autoImplicit false
set_option linter.all false
set_option maxRecDepth 100000
namespace Br
open PySem PySem.Spec PyProof.Rows L2
theorem tuple_mul0 (l : Addr) (items : Array Value) (n : Nat) (dd : Option Addr) (sl : Array (Option Value)) (x : Int) (u : Tok) (c0 : (decide (x < -(2 ^ 63)) || decide (x ≥ 2 ^ 63)) = false) (c1 : (items.isEmpty || x == 1) = false) (c2 : (decide (x ≤ 0) || items.isEmpty) = true) :
    Meets (Builtin.«tuple.__mul__» ⟨[.ref l, .int x u], []⟩) (fun _ R s => s.heap.get? l = some { cls := .type "tuple", dict := dd, data := .seq items n, slots := sl } ∧
      R (.ok (.ret (Value.ref s.heap.objs.size))) { s with heap := s.heap.push { cls := Value.type "tuple", data := Data.seq #[] }, toks := s.toks }) :=
  .of_wp fun prog w A R s h => by
    obtain ⟨hp, g, d, tk, os⟩ := s
    obtain ⟨hl, h⟩ := h
    have f1 := AutoSeq1.idx_int
    wp_walk using wpAny_loadPart' hl
    repeat (first
      | (refine wpAny_ite_false (decide_eq_false (by rw [c0]; exact Bool.false_ne_true)) ?_; wp_walk using wpAny_loadPart' hl)
      | (refine wpAny_ite_false (decide_eq_false (by rw [c1]; exact Bool.false_ne_true)) ?_; wp_walk using wpAny_loadPart' hl)
      | (refine wpAny_ite_true (decide_eq_true c2) ?_; wp_walk using wpAny_loadPart' hl))
    exact ⟨_, rfl, h⟩
theorem tuple_mul1 (l : Addr) (items : Array Value) (n : Nat) (dd : Option Addr) (sl : Array (Option Value)) (x : Int) (u : Tok) (c0 : (decide (x < -(2 ^ 63)) || decide (x ≥ 2 ^ 63)) = false) (c1 : (items.isEmpty || x == 1) = true) :
    Meets (Builtin.«tuple.__mul__» ⟨[.ref l, .int x u], []⟩) (fun _ R s => s.heap.get? l = some { cls := .type "tuple", dict := dd, data := .seq items n, slots := sl } ∧
      R (.ok (.ret (Value.ref l))) s) :=
  .of_wp fun prog w A R s h => by
    obtain ⟨hp, g, d, tk, os⟩ := s
    obtain ⟨hl, h⟩ := h
    have f1 := AutoSeq1.idx_int
    wp_walk using wpAny_loadPart' hl
    repeat (first
      | (refine wpAny_ite_false (decide_eq_false (by rw [c0]; exact Bool.false_ne_true)) ?_; wp_walk using wpAny_loadPart' hl)
      | (refine wpAny_ite_true (decide_eq_true c1) ?_; wp_walk using wpAny_loadPart' hl))
    exact ⟨_, rfl, h⟩
def rRepA (K : PySem.W.Frag) : R2 := fun x y H Q => ∃ l k xs, x = .ref l ∧ y = .int k ∧ SqT K H l xs ∧ -100000 ≤ k ∧ k ≤ 100000 ∧ xs.length ≤ 10 ∧
  ((xs = [] ∨ k = 1) → Q (.ref l) H) ∧ (¬ (xs = [] ∨ k = 1) → ∀ p, H p = none → Q (.ref p) (upd H p (.tup (List.replicate k.toNat xs).flatten)))
theorem op_repA {X : Cx} : OpR X (binaryOp .Mult) (rRepA X.K) := by
  intro pins s σ H x y v u Q I rx ry h
  obtain ⟨l, k, xs, rfl, rfl, hT, h1, h2, hz, q1, q2⟩ := h
  cases rx
  obtain ⟨t, rfl⟩ := ry
  obtain ⟨its, r, ⟨⟨cls, dd, data, sl⟩, ho, hc, n, hd⟩, hs⟩ := I.tuple hT
  simp only at hc hd
  subst hc hd
  have hle : its.length = xs.length := r.length.symm
  have c0 : (decide (k < -(2 ^ 63)) || decide (k ≥ 2 ^ 63)) = false := by
    rw [decide_eq_false (by omega), decide_eq_false (by omega)] <;> rfl
  have ie : its.toArray.isEmpty = decide (xs = []) := by
    cases its with
    | nil =>
      have : xs = [] := List.eq_nil_of_length_eq_zero hle.symm
      rw [this]; rfl
    | cons a b =>
      cases xs with
      | nil => simp at hle
      | cons c d => simp
  by_cases c : xs = [] ∨ k = 1
  · have c1 : (its.toArray.isEmpty || k == 1) = true := by
      rw [ie]
      rcases c with c | c
      · rw [decide_eq_true c]; rfl
      · subst c; simp
    exact wpAny_binaryOp_repeat_ref (T := "tuple") (U := "int") (by decide) ⟨_, ho, rfl⟩ (fun s' => typeIs_int s' k t) noFill_tuple_mul F.fills_int_mul F.slot_int_rmul repeat_tuple F.slot_int_index.lookup
      (call_meets F.slot_int_rmul (typeIs_int s k t) F.entry_int_rmul (F.args_int_rmul_2 _ _) (int_rmul_tuple k t l its.toArray n dd sl)
        ⟨ho, rfl, ⟨_, ho, rfl⟩, call_meets F.slot_tuple_mul ⟨_, ho, rfl⟩ F.entry_tuple_mul (F.args_tuple_mul_2 _ _) (tuple_mul1 l its.toArray n dd sl k t c0 c1) ⟨ho, ⟨.ref l, H, I, rfl, q1 c⟩⟩⟩)
  · have c1 : (its.toArray.isEmpty || k == 1) = false := by
      rw [ie, decide_eq_false (fun z => c (.inl z)), Bool.false_or]
      exact beq_eq_false_iff_ne.mpr fun z => c (.inr z)
    by_cases hk : k ≤ 0
    · have c2 : (decide (k ≤ 0) || its.toArray.isEmpty) = true := by rw [decide_eq_true hk]; rfl
      refine wpAny_binaryOp_repeat_ref (T := "tuple") (U := "int") (by decide) ⟨_, ho, rfl⟩ (fun s' => typeIs_int s' k t) noFill_tuple_mul F.fills_int_mul F.slot_int_rmul repeat_tuple F.slot_int_index.lookup
        (call_meets F.slot_int_rmul (typeIs_int s k t) F.entry_int_rmul (F.args_int_rmul_2 _ _) (int_rmul_tuple k t l its.toArray n dd sl)
          ⟨ho, rfl, ⟨_, ho, rfl⟩, call_meets F.slot_tuple_mul ⟨_, ho, rfl⟩ F.entry_tuple_mul (F.args_tuple_mul_2 _ _) (tuple_mul0 l its.toArray n dd sl k t c0 c1 c2) ⟨ho, ?_⟩⟩)
      have hk0 : k.toNat = 0 := by omega
      have qq := q2 c _ (I.hok.fresh (Nat.le_refl s.heap.objs.size))
      rw [hk0] at qq
      refine ⟨.ref s.heap.objs.size, _, I.laid (t' := s.toks) (o := .tup []) (fun b ob q => Heap.get?_push_of_some _ q) (Nat.le_refl _) ?_, rfl, qq⟩
      exact ⟨Nat.zero_le _, [], .nil, IsTup.new _ _⟩
    · have c2 : (decide (k ≤ 0) || its.toArray.isEmpty) = false := by
        rw [ie, decide_eq_false hk, decide_eq_false (fun z => c (.inl z))] <;> rfl
      have hsz0 : its.toArray.size = xs.length := by rw [List.size_toArray, hle]
      have hm : ((its.toArray.size : Nat) : Int) * k ≤ 1000000 := by
        rw [hsz0]
        have a1 : ((xs.length : Nat) : Int) * k ≤ 10 * k := Int.mul_le_mul_of_nonneg_right (by omega) (by omega)
        omega
      have fl : (List.replicate k.toNat xs).flatten.length ≤ sizeLine := by
        rw [PyProof.Rows.lm_len_rep_flat, sizeLine_eq]
        have a1 : k.toNat * xs.length ≤ 100000 * 10 := Nat.mul_le_mul (by omega) hz
        omega
      have flen : (List.replicate k.toNat its).flatten.length ≤ sizeLine := by
        rw [PyProof.Rows.lm_len_rep_flat] at fl ⊢
        rw [hle]; exact fl
      have c4 : Builtin.Tuple.tupleTooMany (((its.toArray.size : Nat) : Int) * k) = false := by
        unfold Builtin.Tuple.tupleTooMany
        rw [sizeLine_eq]
        exact decide_eq_false (by omega)
      refine wpAny_binaryOp_repeat_ref (T := "tuple") (U := "int") (by decide) ⟨_, ho, rfl⟩ (fun s' => typeIs_int s' k t) noFill_tuple_mul F.fills_int_mul F.slot_int_rmul repeat_tuple F.slot_int_index.lookup
        (call_meets F.slot_int_rmul (typeIs_int s k t) F.entry_int_rmul (F.args_int_rmul_2 _ _) (int_rmul_tuple k t l its.toArray n dd sl)
          ⟨ho, rfl, ⟨_, ho, rfl⟩, call_meets F.slot_tuple_mul ⟨_, ho, rfl⟩ F.entry_tuple_mul (F.args_tuple_mul_2 _ _) (tuple_mulW l its.toArray n dd sl k t c0 c1 c2 (by omega) c4 (by rw [size_rep, List.size_toArray]; exact flen)) ⟨ho, ?_⟩⟩)
      rw [size_rep]
      refine ⟨.ref s.heap.objs.size, _, I.laid (t' := s.toks) (o := .tup (List.replicate k.toNat xs).flatten) (fun b ob q => Heap.get?_push_of_some _ q) (Nat.le_refl _) ?_, rfl, q2 c _ (I.hok.fresh (Nat.le_refl _))⟩
      exact ⟨fl, _, r.rep k.toNat, IsTup.new _ _⟩
end Br

set_option autoImplicit false
set_option linter.all false
set_option maxRecDepth 100000
namespace Br
open PySem PySem.Spec PyProof.Rows L2
theorem foldl_rep_str (a : List Nat) : ∀ n : Nat, (List.foldl (fun x1 x2 => x1 ++ x2) #[] (List.replicate n a.toArray)) = (List.replicate n a).flatten.toArray := fun m => by
  have e : ∀ (n : Nat) (acc : List Nat), (List.foldl (fun x1 x2 => x1 ++ x2) acc.toArray (List.replicate n a.toArray)) = (acc ++ (List.replicate n a).flatten).toArray := by
    intro n
    induction n with
    | zero => intro acc; simp
    | succ n ih =>
      intro acc
      rw [List.replicate_succ, List.foldl_cons, List.append_toArray, ih]
      simp [List.replicate_succ]
  have := e m []
  simpa using this
theorem op_mulS {X : Cx} : OpR X (binaryOp .Mult) (fun x y H Q => ∃ (a : List Nat) (k : Int), x = .str (strOf a) ∧ y = .int k ∧ -100000 ≤ k ∧ k ≤ 100000 ∧ a.length ≤ 10 ∧ Q (.str (strOf (List.replicate k.toNat a).flatten)) H) := by
  intro pins s σ H x y v u Q I rx ry h
  obtain ⟨a, k, rfl, rfl, h1, h2, h3, q⟩ := h
  obtain ⟨t, rfl⟩ := rx
  obtain ⟨t', rfl⟩ := ry
  have hl : (strOf a).length = a.length := by simp [strOf, Str.length]
  refine P.mul_str ?_ (fun _ _ => ?_) (fun _ _ => ?_) ?_
  · rw [decide_eq_false (by omega), decide_eq_false (by omega)] <;> rfl
  · rename_i z1 z2
    rw [hl]
    have e : (2 ^ 63 - 1 : Int) / k ≥ (2 ^ 63 - 1 : Int) / 100000 := by
      refine (Int.le_ediv_iff_mul_le (by omega)).mpr ?_
      have : (2 ^ 63 - 1 : Int) / 100000 * k ≤ (2 ^ 63 - 1 : Int) / 100000 * 100000 := Int.mul_le_mul_of_nonneg_left h2 (by decide)
      exact Int.le_trans this (by decide)
    have e2 : (2 ^ 63 - 1 : Int) / 100000 ≥ 1000 := by decide
    omega
  · unfold Builtin.Str.tooLong
    rw [hl]
    have : a.length * k.toNat ≤ 10 * 100000 := Nat.mul_le_mul h3 (by omega)
    rw [sizeLine_eq]
    exact decide_eq_false (by omega)
  · by_cases z : k < 1
    · rw [if_pos z]
      have z0 : k.toNat = 0 := by omega
      rw [z0] at q
      exact ⟨by decide, .str (strOf []), H, I.tok _, ⟨_, rfl⟩, q⟩
    · rw [if_neg z]
      by_cases z2 : (k == 1 || (strOf a).length == 0) = true
      · rw [if_pos z2]
        refine ⟨.str (strOf a), H, I, ⟨_, rfl⟩, ?_⟩
        have e : (List.replicate k.toNat a).flatten = a := by
          rcases Bool.or_eq_true_iff.mp z2 with w | w
          · have w' : k = 1 := by simpa using w
            rw [w']; simp
          · have w' : a = [] := by
              rw [hl] at w
              exact List.eq_nil_of_length_eq_zero (by simpa using w)
            rw [w']; simp
        rw [e] at q; exact q
      · rw [if_neg z2]
        have fl : ∀ n : Nat, (List.replicate n a).flatten.length = n * a.length := fun n => by simp
        refine ⟨?_, .str (strOf (List.replicate k.toNat a).flatten), H, I.tok _, ⟨s.toks, ?_⟩, q⟩
        · show (List.foldl (fun x1 x2 => x1 ++ x2) #[] (List.replicate k.toNat a.toArray)).size ≤ _
          rw [foldl_rep_str, List.size_toArray, fl, sizeLine_eq]
          have : k.toNat * a.length ≤ 100000 * 10 := Nat.mul_le_mul (by omega) h3
          omega
        · show Value.str ⟨List.foldl (fun x1 x2 => x1 ++ x2) #[] (List.replicate k.toNat a.toArray)⟩ _ = _
          rw [foldl_rep_str]; rfl
end Br

set_option autoImplicit false
set_option linter.all false
set_option maxRecDepth 100000
namespace Br
open PySem PySem.Spec PyProof.Rows L2
section
variable {X : Cx}
theorem call_repr_tup {prog : Program} {w : World} {A : Around} {E : Value → Shared → Prop} {s : Shared} {a : Addr} {d : PyData} {xs : List PyData} {as : List Addr} {Q : Value → Shared → Prop}
    (r : Reads s.heap (.ref a) (.tuple xs) as) (hs : (PyData.tuple xs).showable = true) (hd : (PyData.tuple xs).hasDict = false) (hg : A.guards = some []) (hu : A.units + (PyData.tuple xs).depth + 1 < cLine) (hz : (PyData.tuple xs).shown.length ≤ sizeLine)
    (hQ : ∀ h' u tk, (∀ b o, s.heap.get? b = some o → h'.get? b = some o) → Q (.str (PyData.tuple xs).shown u) { s with heap := h', toks := tk }) : wpAny (model prog w) A (call (.builtin "repr") [.ref a]) Q E s := by
  cases r with
  | tuple h1 h2 h3 h4 =>
    have hz' : (tupleText (PyData.shownAll xs)).length ≤ sizeLine := by simpa only [PyData.shown] using hz
    have r : Reads s.heap (.ref a) (.tuple xs) _ := .tuple h1 h2 h3 h4
    have hd' : PyData.hasDictAll xs = false := by simpa [PyData.hasDict] using hd
    obtain ⟨bs, hb, hk⟩ := ReprAllK.of_readsAll (prog := prog) (w := w) h4 (by simpa [PyData.showable] using hs) (fun hx => by rw [hd'] at hx; cases hx) (fun t ht => Nat.le_trans (tupleText_mem_le ht) hz')
    have hna : a ∉ bs := not_mem_of_deeper r (by simp only [PyData.depth]; omega) hb
    simp only [PyData.depth] at hu
    simp only [PyData.shown] at hQ
    have hTy : s.TypeIs (.ref a) "tuple" := ⟨_, h1, h2⟩
    refine Calls.call_function_entry F.kind_repr F.plain_repr F.entry_repr (F.args_repr1 _) ?_
    unfold Builtin.«repr»
    refine wpAny_bind (m := oneArg "repr" _) (wpAny_pure ?_)
    have hu2 : A.in1.units = A.units + 1 := rfl
    refine wpAny_bind (wpAny_cRoomFor (by omega) ?_)
    refine wpAny_bind (wpAny_specialOf (name := Str.ofString "__repr__") hTy F.slot_tuple_repr.lookup ?_)
    refine wpAny_bind (m := callSpecialIfBound? (.ref a) (Str.ofString "__repr__")) (wpAny_callSpecialIfBound?_slotG (name := Str.ofString "__repr__") hTy F.slot_tuple_repr
      (call_tuple_reprK h1 h2 h3 hna hk hg (fun b _ => Clear.nil b) (by omega) (fun _ _ e => e) (fun h' u tk hk' => ?_) hz'))
    refine wpAny_bind (wpAny_isInstance (T := "str") (b := true) rfl isSubtype_str_str ?_)
    exact wpAny_pure ⟨_, rfl, hQ h' u tk hk'⟩

/-! ### sizes -/
mutual
theorem noDict : ∀ x : PV, x.toD.hasDict = false
  | .non => by simp [PV.toD, PyData.hasDict]
  | .bl _ => by simp [PV.toD, PyData.hasDict]
  | .int _ => by simp [PV.toD, PyData.hasDict]
  | .str _ => by simp [PV.toD, PyData.hasDict]
  | .tup xs => by simp only [PV.toD, PyData.hasDict]; exact noDicts xs
  | .lst xs => by simp only [PV.toD, PyData.hasDict]; exact noDicts xs
theorem noDicts : ∀ xs : List PV, PyData.hasDictAll (PV.toDs xs) = false
  | [] => by simp [PV.toDs, PyData.hasDictAll]
  | x :: xs => by simp only [PV.toDs, PyData.hasDictAll, noDict x, noDicts xs]; rfl
end
theorem sizeL : sizeLine = 16777216 := sizeLine_eq
theorem int_len {i : Int} (h : szP (.int i) ≤ 16000000) : i.natAbs.log2 < 1920 ∧ (Str.ofString (toString i)).length ≤ szP (.int i) := by
  unfold szP at h ⊢
  by_cases h1 : 0 ≤ i ∧ i < 100000000000000000000
  · rw [if_pos h1]
    refine ⟨?_, PyProof.Rows.toString_length_le h1.1 (by decide) (by omega)⟩
    by_cases hz : i.natAbs = 0
    · rw [hz]; decide
    · rw [Nat.log2_lt hz]
      have : i.natAbs < 100000000000000000000 := by omega
      exact Nat.lt_of_lt_of_le this (by decide)
  · rw [if_neg h1] at h ⊢
    by_cases h2 : i.natAbs.log2 < 1920
    · rw [if_pos h2]
      exact ⟨h2, int_text_len_1921 h2⟩
    · rw [if_neg h2] at h
      omega
mutual
theorem sz_ok {K : PySem.W.Frag} {H : Hp} {M : Addr → Prop} : ∀ {x : PV} {v : V}, RP K H M x v → szP x ≤ 16000000 → x.toD.showable = true ∧ x.toD.shown.length ≤ szP x
  | _, _, .non, _ => ⟨by simp [PV.toD, PyData.showable], by simp only [PV.toD]; decide⟩
  | _, _, .bl b, _ => ⟨by simp [PV.toD, PyData.showable], by simp only [PV.toD]; cases b <;> decide⟩
  | _, _, .int i, h => ⟨by simp [PV.toD, PyData.showable, (int_len h).1], by simp only [PV.toD, PyData.shown]; exact (int_len h).2⟩
  | _, _, .str s o, _ => by
    refine ⟨by simp [PV.toD, PyData.showable], ?_⟩
    have h : s.all (· < 1114112) = true := by
      unfold okS at o
      exact (Bool.and_eq_true_iff.mp o).1
    simp only [PV.toD, PyData.shown, szP]
    exact StrLaws.reprText_len (strOf s) fun c hc => by
      have := List.all_eq_true.mp h c hc
      have q : c < 1114112 := of_decide_eq_true this
      exact Nat.lt_trans q (by decide)
  | _, _, .tup (xs := xs) _ t, h => by
    have h' : szL xs ≤ 16000000 := by simp only [szP] at h; omega
    obtain ⟨h1, h2, h3⟩ := szs_ok t h'
    refine ⟨by simp only [PV.toD, PyData.showable]; exact h1, ?_⟩
    have := tupleText_len_le (PyData.shownAll (PV.toDs xs))
    simp only [PV.toD, PyData.shown, szP]
    omega
  | _, _, .lst (xs := xs) _ _ t, h => by
    have h' : szL xs ≤ 16000000 := by simp only [szP] at h; omega
    obtain ⟨h1, h2, h3⟩ := szs_ok t h'
    refine ⟨by simp only [PV.toD, PyData.showable]; exact h1, ?_⟩
    have := listText_len_le (PyData.shownAll (PV.toDs xs))
    simp only [PV.toD, PyData.shown, szP]
    omega
theorem szs_ok {K : PySem.W.Frag} {H : Hp} {M : Addr → Prop} : ∀ {xs : List PV} {vs : List V}, RPs K H M xs vs → szL xs ≤ 16000000 → PyData.showableAll (PV.toDs xs) = true ∧ ((PyData.shownAll (PV.toDs xs)).map (·.length)).sum + 2 * (PyData.shownAll (PV.toDs xs)).length ≤ szL xs ∧ True
  | _, _, .nil, _ => ⟨by simp [PV.toDs, PyData.showableAll], by simp [PV.toDs, PyData.shownAll, szL], trivial⟩
  | _, _, .cons (x := x) (xs := xs) r t, h => by
    have h1 : szP x ≤ 16000000 := by simp only [szL] at h; omega
    have h2 : szL xs ≤ 16000000 := by simp only [szL] at h; omega
    obtain ⟨a1, a2⟩ := sz_ok r h1
    obtain ⟨b1, b2, _⟩ := szs_ok t h2
    refine ⟨by simp only [PV.toDs, PyData.showableAll, a1, b1]; rfl, ?_, trivial⟩
    simp only [PV.toDs, PyData.shownAll, List.map_cons, List.sum_cons, List.length_cons, szL]
    omega
end
theorem RT.sz {K : PySem.W.Frag} {H : Hp} {M : Addr → Prop} {x : PV} {v : V} (r : RT K H M x v) (h : szP x ≤ 16000000) : x.toD.showable = true ∧ x.toD.shown.length ≤ szP x := by
  cases r with
  | of r => exact sz_ok r h
  | @own a vs xs q t =>
    have h' : szL xs ≤ 16000000 := by simp only [szP] at h; omega
    obtain ⟨h1, h2, h3⟩ := szs_ok t h'
    refine ⟨by simp only [PV.toD, PyData.showable]; exact h1, ?_⟩
    have := listText_len_le (PyData.shownAll (PV.toDs xs))
    simp only [PV.toD, PyData.shown, szP]
    omega
theorem call_repr_lst {prog : Program} {w : World} {A : Around} {E : Value → Shared → Prop} {s : Shared} {a : Addr} {xs : List PyData} {as : List Addr} {Q : Value → Shared → Prop}
    (r : Reads s.heap (.ref a) (.list xs) as) (hs : (PyData.list xs).showable = true) (hd : (PyData.list xs).hasDict = false) (hg : A.guards = some []) (hu : A.units + (PyData.list xs).depth + 1 < cLine) (hz : (PyData.list xs).shown.length ≤ sizeLine)
    (hQ : ∀ h' u tk, (∀ b o, s.heap.get? b = some o → h'.get? b = some o) → Q (.str (PyData.list xs).shown u) { s with heap := h', toks := tk }) : wpAny (model prog w) A (call (.builtin "repr") [.ref a]) Q E s := by
  cases r with
  | @list _ _ vs _ _ _ h1 h2 h3 h4 =>
    have hz' : (listText (PyData.shownAll xs)).length ≤ sizeLine := by simpa only [PyData.shown] using hz
    have r : Reads s.heap (.ref a) (.list xs) _ := .list h1 h2 h3 h4
    have hd' : PyData.hasDictAll xs = false := by simpa [PyData.hasDict] using hd
    obtain ⟨bs, hb, hk⟩ := ReprAllK.of_readsAll (prog := prog) (w := w) h4 (by simpa [PyData.showable] using hs) (fun hx => by rw [hd'] at hx; cases hx) (fun t ht => Nat.le_trans (listText_mem_le ht) hz')
    have hna : a ∉ bs := not_mem_of_deeper r (by simp only [PyData.depth]; omega) hb
    simp only [PyData.depth] at hu
    simp only [PyData.shown] at hQ
    have hTy : s.TypeIs (.ref a) "list" := ⟨_, h1, h2⟩
    refine Calls.call_function_entry F.kind_repr F.plain_repr F.entry_repr (F.args_repr1 _) ?_
    unfold Builtin.«repr»
    refine wpAny_bind (m := oneArg "repr" _) (wpAny_pure ?_)
    have hu2 : A.in1.units = A.units + 1 := rfl
    refine wpAny_bind (wpAny_cRoomFor (by omega) ?_)
    refine wpAny_bind (wpAny_specialOf (name := Str.ofString "__repr__") hTy F.slot_list_repr.lookup ?_)
    obtain ⟨l⟩ := vs
    cases l with
    | nil =>
      have h4' : ReadsAll s.heap [] xs _ := h4
      cases h4'
      simp only [PyData.shownAll, listText_nil] at hQ
      refine wpAny_bind (m := callSpecialIfBound? (.ref a) (Str.ofString "__repr__")) (wpAny_callSpecialIfBound?_slot (name := Str.ofString "__repr__") hTy F.slot_list_repr
        (call_list_repr_empty hTy h1 h3 ?_))
      refine wpAny_bind (wpAny_isInstance (T := "str") (b := true) rfl isSubtype_str_str ?_)
      exact wpAny_pure ⟨_, rfl, hQ s.heap _ _ fun _ _ e => e⟩
    | cons x l =>
      refine wpAny_bind (m := callSpecialIfBound? (.ref a) (Str.ofString "__repr__")) (wpAny_callSpecialIfBound?_slot (name := Str.ofString "__repr__") hTy F.slot_list_repr
        (call_list_reprK h1 h2 h3 hna (by simpa using hk.length_eq) (fun i y e => hk.item i y (by simpa using e)) hg (fun b _ => Clear.nil b) (by omega) (fun _ _ e => e) (fun h' u tk hk' => ?_) hz'))
      refine wpAny_bind (wpAny_isInstance (T := "str") (b := true) rfl isSubtype_str_str ?_)
      exact wpAny_pure ⟨_, rfl, hQ h' u tk hk'⟩
theorem vals_one {x : V} {us : List Value} (r : Vals [x] us) : ∃ u, us = [u] ∧ RelV x u := by
  cases r with
  | cons a b => cases b; exact ⟨_, rfl, a⟩
theorem sim_repr {μ : Mu} {O : Addr → Prop} {H : Hp} {h : CH} {p : PV} {x : V} {Q : VK} (hg : X.A.guards = some []) (hu : X.A.units + 100 < cLine) (s : SR X.K μ O H h) (ok : shownOk p = true) (r : RT X.K H (μ.own O) p x) (q : Q (.str (txt p)) H) : cS X (.builtin "repr") [x] H Q := by
  intro pins st σ us I rv
  obtain ⟨u, rfl, ru⟩ := vals_one rv
  unfold shownOk at ok
  rw [Bool.and_eq_true] at ok
  have hz : szP p ≤ 16000000 := of_decide_eq_true ok.1
  have hdp : p.toD.depth ≤ 60 := depth_toD 60 p ok.2
  obtain ⟨h1, h2⟩ := r.sz hz
  have hz2 : p.toD.shown.length ≤ sizeLine := by rw [sizeL]; omega
  obtain ⟨as, rd⟩ := Dp.reads I p.toD x u r.dp ru
  have fin : ∀ h' v tk, (∀ b o, st.heap.get? b = some o → h'.get? b = some o) → EP X pins σ Q (.str p.toD.shown v) { st with heap := h', toks := tk } := fun h' v tk hk => ⟨.str (txt p), H, I.kept hk, ⟨v, rfl⟩, q⟩
  cases p with
  | non =>
    rw [r.non] at ru
    cases ru
    exact PySem.P.repr_of_none (fin st.heap _ _ fun _ _ e => e)
  | bl b =>
    rw [r.bl] at ru
    cases ru
    have := fin st.heap st.toks (st.toks + 1) fun _ _ e => e
    refine PySem.P.repr_of_bool ?_
    cases b <;> exact this
  | int i =>
    rw [r.int] at ru
    obtain ⟨t, rfl⟩ := ru
    have hl : i.natAbs.log2 < 1920 := by simpa [PV.toD, PyData.showable] using h1
    exact PySem.P.repr_of_int hl (fin st.heap _ _ fun _ _ e => e)
  | str z =>
    rw [r.str.1] at ru
    obtain ⟨t, rfl⟩ := ru
    exact PySem.P.repr_of_str (fin st.heap _ _ fun _ _ e => e) hz2
  | tup xs =>
    obtain ⟨a, vs, rfl, _, _, _⟩ := r.tup
    cases ru
    have e : (PV.tup xs).toD = .tuple (PV.toDs xs) := by simp [PV.toD]
    rw [e] at rd h1 hz2 hdp fin
    exact call_repr_tup (d := .none) rd h1 (by rw [← e]; exact noDict _) hg (by omega) hz2 fun h' u tk hk => fin h' u tk hk
  | lst xs =>
    obtain ⟨a, vs, rfl, _, _⟩ := r.lst
    cases ru
    have e : (PV.lst xs).toD = .list (PV.toDs xs) := by simp [PV.toD]
    rw [e] at rd h1 hz2 hdp fin
    exact call_repr_lst rd h1 (by rw [← e]; exact noDict _) hg (by omega) hz2 fun h' u tk hk => fin h' u tk hk
end
end Br

set_option autoImplicit false
set_option linter.all false
set_option maxRecDepth 100000
namespace Br
open PySem PySem.Spec PyProof.Rows L2

def bopE : BOp → Operator
  | .add => .Add
  | .sub => .Sub
  | .mul => .Mult
  | .fdiv => .FloorDiv
  | .mod => .Mod
  | .pow => .Pow
def copE : COp → CmpOp
  | .eq => .Eq
  | .ne => .NotEq
  | .lt => .Lt
  | .le => .LtE
  | .gt => .Gt
  | .ge => .GtE
  | .isin => .In
  | .notin => .NotIn
  | .is_ => .Is
  | .isnot => .IsNot

theorem okS_append {a b : List Nat} (ha : okS a = true) (hb : okS b = true) (h : a.length + b.length ≤ 1000000) : okS (a ++ b) = true := by
  unfold okS at *
  simp only [Bool.and_eq_true, decide_eq_true_eq] at *
  refine ⟨by rw [List.all_append, ha.1, hb.1]; rfl, ?_⟩
  rw [List.length_append]; omega
theorem okS_len {a : List Nat} (h : okS a = true) : a.length ≤ 4000000 := by
  unfold okS at h
  simp only [Bool.and_eq_true, decide_eq_true_eq] at h
  exact h.2
theorem okS_sub {a b : List Nat} (h : okS a = true) (hs : ∀ x ∈ b, x ∈ a) (hl : b.length ≤ 4000000) : okS b = true := by
  unfold okS at *
  simp only [Bool.and_eq_true, decide_eq_true_eq, List.all_eq_true] at *
  exact ⟨fun x hx => h.1 x (hs x hx), hl⟩
theorem strOf_append (a b : List Nat) : strOf a ++ strOf b = strOf (a ++ b) := by
  show Str.append _ _ = _
  simp [strOf, Str.append]
theorem strOf_len (a : List Nat) : (strOf a).length = a.length := by simp [strOf, Str.length]

section
variable {X : Cx} {μ : Mu} {O : Addr → Prop} {H : Hp} {h : CH} {Q : VK} {x y : V}
/-- what a result must meet -/
abbrev QOut (K : PySem.W.Frag) (μ : Mu) (O : Addr → Prop) (H : Hp) (h : CH) (c : PV) (Q : VK) : Prop :=
  ∀ z H', SR K μ O H' h → Stp K μ H μ H' → RP K H' (μ.own O) c z → Q z H'
theorem QOut.now {c : PV} (q : QOut X.K μ O H h c Q) (s : SR X.K μ O H h) {z : V} (r : RP X.K H (μ.own O) c z) : Q z H := q z H s Stp.refl r
theorem QOut.tup {xs : List PV} {vs : List V} (q : QOut X.K μ O H h (.tup xs) Q) (s : SR X.K μ O H h) (r : RPs X.K H (μ.own O) xs vs) : ∀ p, H p = none → Q (.ref p) (upd H p (.tup vs)) :=
  fun p hp => q _ _ (s.new hp) (Stp.new hp) (RP.newT s hp r)
theorem QOut.lst {xs : List PV} {vs : List V} (q : QOut X.K μ O H h (.lst xs) Q) (s : SR X.K μ O H h) (r : RPs X.K H (μ.own O) xs vs) : ∀ p, H p = none → Q (.ref p) (upd H p (.lst vs)) :=
  fun p hp => q _ _ (s.new hp) (Stp.new hp) (RP.newL s hp r)
theorem wide_of {i : Int} (h : wideB i = true) : -(2 ^ 64) < i ∧ i < 2 ^ 64 := by
  unfold wideB at h
  have := of_decide_eq_true h
  omega
theorem RPs.nil_iff {K : PySem.W.Frag} {M : Addr → Prop} {xs : List PV} {vs : List V} (r : RPs K H M xs vs) : vs = [] ↔ xs = [] := by
  cases r <;> simp
theorem sim_bin {op : BOp} {a b c : PV} (s : SR X.K μ O H h) (hc : binP op a b = some c) (ra : RT X.K H (μ.own O) a x) (rb : RT X.K H (μ.own O) b y) (q : QOut X.K μ O H h c Q) : oS X (binaryOp (bopE op)) x y H Q := by
  unfold binP at hc
  split at hc
  · cases hc; rw [ra.int, rb.int]; exact oS.of op_add ⟨_, _, rfl, rfl, q.now s (.int _)⟩
  · cases hc; rw [ra.int, rb.int]; exact oS.of op_sub ⟨_, _, rfl, rfl, q.now s (.int _)⟩
  · split at hc
    · rename_i hw
      cases hc; rw [ra.int, rb.int]
      refine oS.of op_mul ⟨_, _, rfl, rfl, ?_, q.now s (.int _)⟩
      unfold mulOk at hw
      rcases Bool.or_eq_true_iff.mp hw with hw | hw
      · exact .inl (wide_of hw)
      · exact .inr (wide_of hw)
    · cases hc
  · split at hc
    · cases hc; rw [ra.int, rb.int]; exact oS.of op_fdiv ⟨_, _, rfl, rfl, by assumption, q.now s (.int _)⟩
    · cases hc
  · split at hc
    · cases hc; rw [ra.int, rb.int]; exact oS.of op_mod ⟨_, _, rfl, rfl, by assumption, q.now s (.int _)⟩
    · cases hc
  · split at hc
    · rename_i hw
      cases hc; rw [ra.int, rb.int]; exact oS.of op_pow ⟨_, _, rfl, rfl, ⟨hw.1, by omega, hw.2.2⟩, q.now s (.int _)⟩
    · cases hc
  · split at hc
    · rename_i hl
      cases hc
      obtain ⟨rfl, oa⟩ := ra.str
      obtain ⟨rfl, ob⟩ := rb.str
      refine oS.of op_add_str ⟨_, _, rfl, rfl, ?_, ?_⟩
      · rw [strOf_len, strOf_len, sizeLine_eq]; omega
      · rw [strOf_append]; exact q.now s (.str _ (okS_append oa ob hl))
    · cases hc
  · split at hc
    · rename_i hl
      cases hc
      obtain ⟨a1, vs, rfl, qa, na, ta⟩ := ra.tup
      obtain ⟨b1, ws, rfl, qb, nb, tb⟩ := rb.tup
      refine oS.of op_catA ⟨_, _, _, _, rfl, rfl, qa, qb, ?_, fun z => ?_, fun z1 z2 => ?_, fun z1 z2 => ?_⟩
      · rw [ta.length, tb.length, sizeLine_eq]; omega
      · rw [ta.nil_iff.mp z, List.nil_append] at q
        exact q.now s (.tup nb tb)
      · rw [tb.nil_iff.mp z2, List.append_nil] at q
        exact q.now s (.tup na ta)
      · exact q.tup s (ta.append tb)
    · cases hc
  · split at hc
    · rename_i hl
      cases hc
      obtain ⟨a1, vs, rfl, qa, ta⟩ := ra.lst
      obtain ⟨b1, ws, rfl, qb, tb⟩ := rb.lst
      refine oS.of op_cat ⟨_, _, _, _, rfl, rfl, qa, qb, ?_, q.lst s (ta.append tb)⟩
      rw [ta.length, tb.length, sizeLine_eq]; omega
    · cases hc
  · split at hc
    · rename_i hl
      cases hc
      obtain ⟨a1, vs, rfl, qa, na, ta⟩ := ra.tup
      rw [rb.int]
      refine oS.of op_repA ⟨_, _, _, rfl, rfl, qa, hl.1, hl.2.1, by rw [ta.length]; exact hl.2.2, fun z => ?_, fun z => q.tup s (ta.rep _)⟩
      refine q.now s (.tup na ?_)
      unfold repL
      rcases z with z | z
      · subst z
        cases ta
        have e : ∀ n : Nat, (List.replicate n ([] : List PV)).flatten = [] := fun n => by induction n <;> simp_all [List.replicate_succ]
        rw [e]; exact .nil
      · rw [z]; simpa using ta
    · cases hc
  · split at hc
    · rename_i hl
      cases hc
      obtain ⟨a1, vs, rfl, qa, ta⟩ := ra.lst
      rw [rb.int]
      refine oS.of op_rep ⟨_, _, _, rfl, rfl, qa, by omega, by omega, ?_, q.lst s (ta.rep _)⟩
      rw [ta.length, sizeLine_eq]
      rename_i k
      have : _ * k.toNat ≤ 10 * 100000 := Nat.mul_le_mul hl.2.2 (by omega : k.toNat ≤ 100000)
      omega
    · cases hc
  · split at hc
    · rename_i hl
      cases hc
      obtain ⟨rfl, oa⟩ := ra.str
      rw [rb.int]
      rename_i a k
      refine oS.of op_mulS ⟨_, _, rfl, rfl, hl.1, hl.2.1, hl.2.2, q.now s (.str _ (okS_sub oa (fun z hz => ?_) ?_))⟩
      · obtain ⟨l, h1, h2⟩ := List.mem_flatten.mp hz
        rw [List.eq_of_mem_replicate h1] at h2
        exact h2
      · have e : (List.replicate k.toNat a).flatten.length = k.toNat * a.length := by simp
        show (List.replicate k.toNat a).flatten.length ≤ 4000000
        rw [e]
        have : k.toNat * a.length ≤ 100000 * 10 := Nat.mul_le_mul (by omega) hl.2.2
        omega
    · cases hc
  · cases hc

/-! ### comparisons -/
theorem strLt_lt : ∀ a b : List Nat, strLt a b = decide (a < b)
  | _, [] => by simp [strLt]
  | [], _ :: _ => by simp [strLt]
  | a :: as, b :: bs => by
    unfold strLt
    rw [strLt_lt as bs]
    by_cases h1 : a < b
    · rw [if_pos h1, decide_eq_true]
      exact List.Lex.rel h1
    · rw [if_neg h1]
      by_cases h2 : b < a
      · rw [if_pos h2, decide_eq_false]
        intro z
        rcases List.cons_lt_cons_iff.mp z with z | ⟨z, _⟩ <;> omega
      · rw [if_neg h2]
        have e : a = b := by omega
        subst e
        by_cases h3 : as < bs
        · rw [decide_eq_true h3, decide_eq_true]
          exact List.cons_lt_cons_iff.mpr (.inr ⟨rfl, h3⟩)
        · rw [decide_eq_false h3, decide_eq_false]
          intro z
          rcases List.cons_lt_cons_iff.mp z with z | ⟨_, z⟩
          · omega
          · exact h3 z
theorem eq_run {a b : PV} {pins : List (Addr × Obj)} {s : Shared} {σ : L2.St} {v u : Value} {M : Addr → Prop} {A : Around} {E : Value → Shared → Prop} {R : Value → Shared → Prop} (I : Inv X pins σ H s) (ra : RT X.K H M a x) (rb : RT X.K H M b y) (rx : RelV x v) (ry : RelV y u)
    (hd : (a.dle deepC || b.dle deepC) = true) (hu : A.units + 64 < cLine) (q : R (.bool (a.eqv b)) s) : wpAny (model X.prog X.w) A (compareOp .Eq v u) R E s := by
  obtain ⟨as, r1⟩ := Dp.reads I _ x v ra.dp rx
  obtain ⟨bs, r2⟩ := Dp.reads I _ y u rb.dp ry
  refine SeqAt.compareEq_reads r1 r2 ra.lay rb.lay ?_ (by rw [eqv_toD]; exact q)
  unfold deepC at hd
  rcases Bool.or_eq_true_iff.mp hd with hd | hd
  · have := depth_toD _ _ hd; omega
  · have := depth_toD _ _ hd; omega
theorem ne_run {a b : PV} {pins : List (Addr × Obj)} {s : Shared} {σ : L2.St} {v u : Value} {M : Addr → Prop} {A : Around} {E : Value → Shared → Prop} {R : Value → Shared → Prop} (I : Inv X pins σ H s) (ra : RT X.K H M a x) (rb : RT X.K H M b y) (rx : RelV x v) (ry : RelV y u)
    (hd : (a.dle deepC || b.dle deepC) = true) (hu : A.units + 64 < cLine) (q : R (.bool (!a.eqv b)) s) : wpAny (model X.prog X.w) A (compareOp .NotEq v u) R E s := by
  obtain ⟨as, r1⟩ := Dp.reads I _ x v ra.dp rx
  obtain ⟨bs, r2⟩ := Dp.reads I _ y u rb.dp ry
  refine SeqAt.compareNe_reads r1 r2 ra.lay rb.lay ?_ (by rw [eqv_toD]; exact q)
  unfold deepC at hd
  rcases Bool.or_eq_true_iff.mp hd with hd | hd
  · have := depth_toD _ _ hd; omega
  · have := depth_toD _ _ hd; omega
theorem RT.isnon {K : PySem.W.Frag} {M : Addr → Prop} {a : PV} (r : RT K H M a x) : decide (x = V.non) = isNon a := by
  cases r with
  | of r => cases r <;> simp [Br.isNon]
  | own _ _ => simp [Br.isNon]
/-- the comparisons that are served so far -/
def cmpOk : COp → PV → PV → Bool
  | .isin, _, _ => false
  | .notin, _, _ => false
  | _, _, _ => true
theorem sim_cmp {op : COp} {a b : PV} {c : Bool} (s : SR X.K μ O H h) (hu : X.A.units + 64 < cLine) (hok : cmpOk op a b = true) (hc : cmpP op a b = some c) (ra : RT X.K H (μ.own O) a x) (rb : RT X.K H (μ.own O) b y) (q : Q (.bl c) H) : oS X (compareOp (copE op)) x y H Q := by
  cases op with
  | eq =>
    simp only [cmpP, eqP] at hc
    split at hc
    · cases hc
      intro pins s σ v u I rx ry
      exact eq_run I ra rb rx ry (by assumption) hu ⟨.bl _, H, I, rfl, q⟩
    · cases hc
  | ne =>
    simp only [cmpP, eqP] at hc
    split at hc
    · cases hc
      intro pins s σ v u I rx ry
      exact ne_run I ra rb rx ry (by assumption) hu ⟨.bl _, H, I, rfl, q⟩
    · cases hc
  | lt =>
    simp only [cmpP, ltP] at hc
    split at hc
    · cases hc; rw [ra.int, rb.int]; exact oS.of op_lt ⟨_, _, rfl, rfl, q⟩
    · cases hc
      rw [ra.str.1, rb.str.1]
      refine oS.of op_lt_str ⟨_, _, rfl, rfl, ?_⟩
      rw [strOf_list, strOf_list, ← strLt_lt]; exact q
    · cases hc
  | gt =>
    simp only [cmpP, ltP] at hc
    split at hc
    · cases hc; rw [ra.int, rb.int]; exact oS.of op_gt ⟨_, _, rfl, rfl, q⟩
    · cases hc
      rw [ra.str.1, rb.str.1]
      refine oS.of op_gt_str ⟨_, _, rfl, rfl, ?_⟩
      rw [strOf_list, strOf_list, ← strLt_lt]; exact q
    · cases hc
  | le =>
    simp only [cmpP, ltP] at hc
    split at hc
    · cases hc; rw [ra.int, rb.int]
      refine oS.of op_le ⟨_, _, rfl, rfl, ?_⟩
      rename_i i j
      have e : decide (j ≤ i) = !decide (i < j) := by by_cases z : i < j <;> simp [z] <;> omega
      show Q (.bl (decide (j ≤ i))) H
      rw [e]; exact q
    · cases hc
      rw [ra.str.1, rb.str.1]
      refine oS.of op_le_str ⟨_, _, rfl, rfl, ?_⟩
      rw [strOf_list, strOf_list, ← strLt_lt]; exact q
    · cases hc
  | ge =>
    simp only [cmpP, ltP] at hc
    split at hc
    · cases hc; rw [ra.int, rb.int]
      refine oS.of op_ge ⟨_, _, rfl, rfl, ?_⟩
      rename_i i j
      have e : decide (j ≤ i) = !decide (i < j) := by by_cases z : i < j <;> simp [z] <;> omega
      show Q (.bl (decide (j ≤ i))) H
      rw [e]; exact q
    · cases hc
      rw [ra.str.1, rb.str.1]
      refine oS.of op_ge_str ⟨_, _, rfl, rfl, ?_⟩
      rw [strOf_list, strOf_list, ← strLt_lt]; exact q
    · cases hc
  | isin => cases hok
  | notin => cases hok
  | is_ =>
    simp only [cmpP, isP] at hc
    split at hc
    · cases hc
      rw [rb.non]
      refine oS.of op_isN ⟨rfl, ?_⟩
      rw [ra.isnon]; exact q
    · split at hc
      · cases hc
        rw [ra.bl, rb.bl]
        refine oS.of op_isBl ⟨_, _, rfl, rfl, ?_⟩
        rw [← Bool.beq_eq_decide_eq]; exact q
      · cases hc
    · cases hc
  | isnot =>
    simp only [cmpP, isP] at hc
    split at hc
    · cases hc
      rw [rb.non]
      refine oS.of op_notN ⟨rfl, ?_⟩
      rw [ra.isnon]; exact q
    · split at hc
      · cases hc
        rw [ra.bl, rb.bl]
        refine oS.of op_notBl ⟨_, _, rfl, rfl, ?_⟩
        rw [← Bool.beq_eq_decide_eq]; exact q
      · cases hc
    · cases hc

/-! ### subscripts, truths, built-in functions -/
theorem ixN_eq (n : Nat) (i : Int) : Br.ixN n i = L2.ixN n i := by
  unfold Br.ixN L2.ixN
  split
  · rfl
  · by_cases z : 0 ≤ (n : Int) + i
    · rw [if_pos z, if_pos (by omega), Int.add_comm]
    · rw [if_neg z, if_neg (by omega)]
theorem atI_some {α : Type} {xs : List α} {i : Int} {x : α} (e : Br.atI xs i = some x) : ∃ j, L2.ixN xs.length i = some j ∧ xs[j]? = some x := by
  unfold Br.atI at e
  obtain ⟨j, e1, e2⟩ := Option.bind_eq_some_iff.mp e
  exact ⟨j, by rw [← ixN_eq]; exact e1, e2⟩
theorem ixS {X : Cx} {r : R2} {a b : Expr} {pos : Pos} {σ : L2.St} {H : Hp} {Q : VK} (hr : IxR X r) (hs : PlainIx b) (h : tS X a σ H fun x H1 => tS X b σ H1 fun y H2 => r x y H2 Q) : tS X (.Subscript a b pos) σ H Q :=
  tS.of (pe_ix hr pe_S pe_S hs) h
def xS (X : Cx) : R2 := fun x y H Q => ∀ (value slice : Expr) (pins : List (Addr × Obj)) (s : Shared) (σ : L2.St) (v u : Value), Inv X pins σ H s → RelV x v → RelV y u →
    subscripted slice false v u = operate [v, u] (getItem v u) → wpAny (model X.prog X.w) X.A (subscriptTail value slice v u) (EP X pins σ Q) X.xe s
theorem ix_S : IxR X (xS X) := fun value slice pins s σ _ _ _ v u _ I rx ry h hs => h value slice pins s σ v u I rx ry hs
theorem xS.of {r : R2} (h : IxR X r) (q : r x y H Q) : xS X x y H Q := fun value slice pins s σ v u I rx ry hs => h value slice pins s σ H x y v u Q I rx ry q hs
theorem sim_idx {a b c : PV} (s : SR X.K μ O H h) (hc : idxP a b = some c) (ra : RT X.K H (μ.own O) a x) (rb : RT X.K H (μ.own O) b y) (q : QOut X.K μ O H h c Q) : xS X x y H Q := by
  unfold idxP at hc
  split at hc
  · obtain ⟨a1, vs, rfl, qa, na, ta⟩ := ra.tup
    rw [rb.int]
    obtain ⟨j, e1, e2⟩ := atI_some hc
    obtain ⟨v, e3, r⟩ := ta.get e2
    refine xS.of ix_tup ⟨_, _, _, v, rfl, rfl, qa, ?_, q.now s r⟩
    unfold L2.atI
    rw [ta.length, e1]; exact e3
  · obtain ⟨a1, vs, rfl, qa, ta⟩ := ra.lst
    rw [rb.int]
    obtain ⟨j, e1, e2⟩ := atI_some hc
    obtain ⟨v, e3, r⟩ := ta.get e2
    refine xS.of ix_list ⟨_, _, _, v, rfl, rfl, .of qa, ?_, q.now s r⟩
    unfold L2.atI
    rw [ta.length, e1]; exact e3
  · obtain ⟨c', e1, e2⟩ := Option.map_eq_some_iff.mp hc
    subst e2
    obtain ⟨rfl, oa⟩ := ra.str
    rw [rb.int]
    obtain ⟨j, e3, e4⟩ := atI_some e1
    refine xS.of ix_str ⟨_, _, c', rfl, rfl, ?_, ?_, q.now s (.str [c'] (okS_sub oa (fun z hz => ?_) (by simp)))⟩
    · rw [strOf_len, sizeLine_eq]; have := okS_len oa; omega
    · unfold L2.atI
      rw [strOf_list, e3]; exact e4
    · have : z = c' := by simpa using hz
      subst this
      exact List.mem_of_getElem? e4
  · cases hc
theorem cutN_eq (n d : Nat) (o : Option Int) : cutN n d o = HT.sIx n d o := by
  cases o with
  | none => rfl
  | some i =>
    show (if i < 0 then ((n : Int) + i).toNat else min i.toNat n) = (if i < 0 then (i + (n : Int)).toNat else min i.toNat n)
    rw [Int.add_comm]
def sxS (X : Cx) : V → Option Int → Option Int → Hp → VK → Prop := fun x lo hi H Q => ∀ (pins : List (Addr × Obj)) (s : Shared) (σ : L2.St) (v vl vu : Value) (sl : Addr), Inv X pins σ H s → RelV x v → s.heap.IsSliceOf sl vl vu .none → IsPart vl lo → IsPart vu hi →
    ∃ T id, typeLookup (.type T) "__getitem__" = pure (some (.builtin id)) ∧ s.TypeIs v T ∧ wpAny (model X.prog X.w) X.A (getItem v (.ref sl)) (EP X pins σ Q) X.xe s
theorem sl_S : SlR X (sxS X) := fun pins s σ _ _ v vl vu _ _ sl _ I rx hs pl pu h => h pins s σ v vl vu sl I rx hs pl pu
theorem sxS.of {r : V → Option Int → Option Int → Hp → VK → Prop} {lo hi : Option Int} (h : SlR X r) (q : r x lo hi H Q) : sxS X x lo hi H Q := fun pins s σ v vl vu sl I rx hs pl pu => h pins s σ H x v vl vu lo hi sl Q I rx hs pl pu q
theorem sim_slc {a c : PV} {lo hi : Option Int} (s : SR X.K μ O H h) (hc : slcP lo hi a = some c) (ra : RT X.K H (μ.own O) a x) (q : QOut X.K μ O H h c Q) : sxS X x lo hi H Q := by
  unfold slcP at hc
  split at hc
  · cases hc
    obtain ⟨a1, vs, rfl, qa, na, ta⟩ := ra.tup
    refine sxS.of sl_tupA ⟨_, _, rfl, qa, fun z => ?_, fun z => ?_⟩
    · refine q.now s ?_
      rename_i ys
      have e : cutL ys lo hi = ys := by
        unfold cutL
        rw [cutN_eq, cutN_eq, ← ta.length, z.1, z.2, ta.length, List.drop_zero]
        simp
      rw [e]; exact .tup na ta
    · rename_i ys
      have : RPs X.K H (μ.own O) (cutL ys lo hi) (cutV vs lo hi) := by
        unfold cutL cutV
        rw [cutN_eq, cutN_eq, ta.length]
        exact (ta.drop _).take _
      exact q.tup s this
  · cases hc
    obtain ⟨a1, vs, rfl, qa, ta⟩ := ra.lst
    rename_i ys
    have : RPs X.K H (μ.own O) (cutL ys lo hi) (cutV vs lo hi) := by
      unfold cutL cutV
      rw [cutN_eq, cutN_eq, ta.length]
      exact (ta.drop _).take _
    exact sxS.of sl_list ⟨_, _, rfl, .of qa, q.lst s this⟩
  · cases hc
    obtain ⟨rfl, oa⟩ := ra.str
    refine sxS.of sl_str ⟨_, rfl, ?_, ?_⟩
    · rw [strOf_len, sizeLine_eq]; have := okS_len oa; omega
    · have e : ∀ a : List Nat, cutS (strOf a) lo hi = strOf (cutL a lo hi) := fun a => by
        unfold cutS cutL strOf
        rw [cutN_eq, cutN_eq]
        rfl
      rw [e]
      refine q.now s (.str _ (okS_sub oa (fun z hz => ?_) ?_))
      · unfold cutL at hz
        exact List.mem_of_mem_drop (List.mem_of_mem_take hz)
      · have := okS_len oa
        unfold cutL
        rw [List.length_take, List.length_drop]; omega
  · cases hc
theorem sim_tru {K : PySem.W.Frag} {M : Addr → Prop} {a : PV} (ra : RT K H M a x) : TruV K x H (truP a) := by
  cases a with
  | non => rw [ra.non]; exact rfl
  | bl b => rw [ra.bl]; exact rfl
  | int i =>
    rw [ra.int]
    show decide (i ≠ 0) = (i != 0)
    by_cases z : i = 0
    · subst z; rfl
    · rw [decide_eq_true z, bne_iff_ne.mpr z]
  | str z =>
    obtain ⟨rfl, oa⟩ := ra.str
    refine ⟨by rw [strOf_len, sizeLine_eq]; have := okS_len oa; omega, ?_⟩
    rw [strOf_len]
    cases z with
    | nil => rfl
    | cons c z =>
      show true = _
      symm
      rw [bne_iff_ne]
      simp only [List.length_cons]
      omega
  | tup xs =>
    obtain ⟨a1, vs, rfl, qa, na, ta⟩ := ra.tup
    exact .inr (.inl ⟨_, qa, by cases ta <;> rfl⟩)
  | lst xs =>
    obtain ⟨a1, vs, rfl, qa, ta⟩ := ra.lst
    exact .inl ⟨_, .of qa, by cases ta <;> rfl⟩
theorem RTs.one {K : PySem.W.Frag} {M : Addr → Prop} {a : PV} {xs : List V} (r : RTs K H M [a] xs) : ∃ x, xs = [x] ∧ RT K H M a x := by
  cases r with
  | cons r t => cases t; exact ⟨_, rfl, r⟩
theorem RTs.two {K : PySem.W.Frag} {M : Addr → Prop} {a b : PV} {xs : List V} (r : RTs K H M [a, b] xs) : ∃ x y, xs = [x, y] ∧ RT K H M a x ∧ RT K H M b y := by
  cases r with
  | cons r t => cases t with | cons r2 t => cases t; exact ⟨_, _, rfl, r, r2⟩
theorem bls_of {K : PySem.W.Frag} {M : Addr → Prop} : ∀ {xs : List PV} {vs : List V} {bs : List Bool}, RPs K H M xs vs → blsOf xs = some bs → vs = bs.map V.bl
  | _, _, _, .nil, e => by cases e; rfl
  | .bl b :: xs, _, _, .cons r t, e => by
    unfold blsOf at e
    obtain ⟨bs, e1, e2⟩ := Option.map_eq_some_iff.mp e
    subst e2
    cases r
    rw [bls_of t e1]; rfl
  | .non :: _, _, _, .cons _ _, e => by cases e
  | .int _ :: _, _, _, .cons _ _, e => by cases e
  | .str _ :: _, _, _, .cons _ _, e => by cases e
  | .tup _ :: _, _, _, .cons _ _, e => by cases e
  | .lst _ :: _, _, _, .cons _ _, e => by cases e
def biV : Bi → Value
  | .len => .builtin "len"
  | .tuple => .type "tuple"
  | .list => .type "list"
  | .abs => .builtin "abs"
  | .int_ => .type "int"
  | .max => .builtin "max"
  | .min => .builtin "min"
  | .repr => .builtin "repr"
  | .str_ => .type "str"
  | .ord => .builtin "ord"
  | .chr => .builtin "chr"
  | .sum => .builtin "sum"
  | .all => .builtin "all"
  | .any => .builtin "any"
  | .sorted => .builtin "sorted"
theorem call_repr_bl : CallR X (.builtin "repr") (fun xs H Q => ∃ b, xs = [.bl b] ∧ Q (.str (strOf (if b then [84, 114, 117, 101] else [70, 97, 108, 115, 101]))) H) := by
  intro pins s σ H xs us Q I r h
  obtain ⟨b, rfl, q⟩ := h
  obtain ⟨u, rfl, rx⟩ := vals1 r
  cases rx
  refine PySem.P.repr_of_bool ⟨.str (strOf (if b then [84, 114, 117, 101] else [70, 97, 108, 115, 101])), H, I.tok _, ⟨s.toks, ?_⟩, q⟩
  cases b with
  | true => exact congrArg (Value.str · s.toks) (by decide +kernel)
  | false => exact congrArg (Value.str · s.toks) (by decide +kernel)
theorem sim_bi {b : Bi} {as : List PV} {c : PV} {xs : List V} (hcalm : X.calm = true) (s : SR X.K μ O H h) (hc : biP b as = some c) (ra : RTs X.K H (μ.own O) as xs) (q : QOut X.K μ O H h c Q) : cS X (biV b) xs H Q := by
  unfold biP at hc
  split at hc
  · obtain ⟨n, e1, e2⟩ := Option.map_eq_some_iff.mp hc
    subst e2
    obtain ⟨x, rfl, r1⟩ := ra.one
    refine cS.of call_len ⟨_, n, rfl, ?_, q.now s (.int _)⟩
    unfold lenP at e1
    split at e1
    · cases e1
      obtain ⟨a1, vs, rfl, qa, na, ta⟩ := r1.tup
      exact .inr ⟨_, qa, ta.length.symm⟩
    · cases e1
      obtain ⟨a1, vs, rfl, qa, ta⟩ := r1.lst
      exact .inl ⟨_, .of qa, ta.length.symm⟩
    · cases e1
      obtain ⟨rfl, oa⟩ := r1.str
      exact ⟨by rw [strOf_len, sizeLine_eq]; have := okS_len oa; omega, by rw [strOf_len]⟩
    · cases e1
  · cases hc
    obtain ⟨x, rfl, r1⟩ := ra.one
    obtain ⟨a1, vs, rfl, qa, na, ta⟩ := r1.tup
    exact cS.of call_tuple_of ⟨_, _, rfl, .inr ⟨qa, q.now s (.tup na ta)⟩⟩
  · cases hc
    obtain ⟨x, rfl, r1⟩ := ra.one
    obtain ⟨a1, vs, rfl, qa, ta⟩ := r1.lst
    exact cS.of call_tuple_of ⟨_, _, rfl, .inl ⟨.of qa, q.tup s ta⟩⟩
  · cases hc
    obtain ⟨x, rfl, r1⟩ := ra.one
    obtain ⟨a1, vs, rfl, qa, na, ta⟩ := r1.tup
    exact cS.of call_list_of ⟨_, _, rfl, .inr qa, q.lst s ta⟩
  · cases hc
    obtain ⟨x, rfl, r1⟩ := ra.one
    obtain ⟨a1, vs, rfl, qa, ta⟩ := r1.lst
    exact cS.of call_list_of ⟨_, _, rfl, .inl (.of qa), q.lst s ta⟩
  · cases hc
    obtain ⟨x, rfl, r1⟩ := ra.one
    rw [r1.int]
    exact cS.of call_abs ⟨_, rfl, q.now s (.int _)⟩
  · cases hc
    obtain ⟨x, rfl, r1⟩ := ra.one
    rw [r1.int]
    exact cS.of call_int1 (.inl ⟨_, rfl, q.now s (.int _)⟩)
  · cases hc
    obtain ⟨x, rfl, r1⟩ := ra.one
    rw [r1.bl]
    exact cS.of call_int1 (.inr ⟨_, rfl, q.now s (.int _)⟩)
  · cases hc
    obtain ⟨x, y, rfl, r1, r2⟩ := ra.two
    rw [r1.int, r2.int]
    exact cS.of (call_max2 hcalm) ⟨_, _, rfl, q.now s (.int _)⟩
  · cases hc
    obtain ⟨x, y, rfl, r1, r2⟩ := ra.two
    rw [r1.int, r2.int]
    exact cS.of (call_min2 hcalm) ⟨_, _, rfl, q.now s (.int _)⟩
  · cases hc
    obtain ⟨x, rfl, r1⟩ := ra.one
    rw [r1.str.1]
    exact cS.of call_ord ⟨_, rfl, rfl, q.now s (.int _)⟩
  · obtain ⟨bs, e1, e2⟩ := Option.map_eq_some_iff.mp hc
    subst e2
    obtain ⟨x, rfl, r1⟩ := ra.one
    obtain ⟨a1, vs, rfl, qa, ta⟩ := r1.lst
    rw [bls_of ta e1] at qa
    exact cS.of (cr_all hcalm) ⟨_, _, rfl, .of qa, q.now s (.bl _)⟩
  · obtain ⟨bs, e1, e2⟩ := Option.map_eq_some_iff.mp hc
    subst e2
    obtain ⟨x, rfl, r1⟩ := ra.one
    obtain ⟨a1, vs, rfl, qa, ta⟩ := r1.lst
    rw [bls_of ta e1] at qa
    exact cS.of (cr_any hcalm) ⟨_, _, rfl, .of qa, q.now s (.bl _)⟩
  · cases hc
    obtain ⟨x, rfl, r1⟩ := ra.one
    rw [r1.bl]
    refine cS.of call_repr_bl ⟨_, rfl, q.now s (.str _ ?_)⟩
    split <;> decide
  · cases hc

/-! ### isinstance -/
def tyV : Ty → String
  | .int => "int"
  | .bool => "bool"
  | .str => "str"
  | .tuple => "tuple"
  | .list => "list"
theorem kit_all {K : PySem.W.Frag} (t u : Ty) : PySem.W.kitOne K (.type (tyV t)) (.type (tyV u)) = some (decide (t = u) || (decide (t = .bool) && decide (u = .int))) := by
  cases t <;> cases u <;> kernel_rfl
theorem kit_non {K : PySem.W.Frag} (u : Ty) : PySem.W.kitOne K (.type "NoneType") (.type (tyV u)) = some false := by
  cases u <;> kernel_rfl
theorem tupX {K : PySem.W.Frag} {a : Addr} {vs : List V} (q : SqT K H a vs) : TyX K H (.ref a) (.type "tuple") := by
  rcases q with (q | ⟨o, q⟩) | ⟨o, _, _, q, c, _⟩
  · exact .base (.tup q)
  · exact .fTuple q
  · exact .kTuple q c
theorem ty_of {K : PySem.W.Frag} {M : Addr → Prop} {a : PV} (ra : RT K H M a x) : ∃ t : String, TyX K H x (.type t) ∧ ∀ u : Ty, PySem.W.kitOne K (.type t) (.type (tyV u)) = some (tyP a u) := by
  cases a with
  | non => rw [ra.non]; exact ⟨_, .base .non, fun u => by rw [kit_non]; cases u <;> rfl⟩
  | bl b => rw [ra.bl]; exact ⟨_, .base (.bl b), fun u => by rw [show ("bool" : String) = tyV .bool from rfl, kit_all]; cases u <;> rfl⟩
  | int b => rw [ra.int]; exact ⟨_, .base (.int b), fun u => by rw [show ("int" : String) = tyV .int from rfl, kit_all]; cases u <;> rfl⟩
  | str b => rw [ra.str.1]; exact ⟨_, .base (.str _), fun u => by rw [show ("str" : String) = tyV .str from rfl, kit_all]; cases u <;> rfl⟩
  | tup xs =>
    obtain ⟨a1, vs, rfl, qa, na, ta⟩ := ra.tup
    exact ⟨_, tupX qa, fun u => by rw [show ("tuple" : String) = tyV .tuple from rfl, kit_all]; cases u <;> rfl⟩
  | lst xs =>
    obtain ⟨a1, vs, rfl, qa, ta⟩ := ra.lst
    exact ⟨_, .base (.lst qa), fun u => by rw [show ("list" : String) = tyV .list from rfl, kit_all]; cases u <;> rfl⟩
theorem sim_isi {a : PV} {u : Ty} (s : SR X.K μ O H h) (ra : RT X.K H (μ.own O) a x) (q : Q (.bl (tyP a u)) H) : cS X (.builtin "isinstance") [x, .ty (tyV u)] H Q := by
  obtain ⟨t, h1, h2⟩ := ty_of ra
  exact cS.of call_isi ⟨_, _, _, _, _, rfl, .ty _, h1, h2 u, q⟩
theorem kit_any {K : PySem.W.Frag} {t : String} {a : PV} (h2 : ∀ u : Ty, PySem.W.kitOne K (.type t) (.type (tyV u)) = some (tyP a u)) : ∀ us : List Ty, PySem.W.kitAny K (.type t) (us.map fun u => .type (tyV u)) = some (us.any (tyP a))
  | [] => rfl
  | u :: us => by
    rw [List.map_cons, PySem.W.kitAny, h2 u]
    cases e : tyP a u with
    | true => simp [e]
    | false => simp only [List.any_cons, e, Bool.false_or]; exact kit_any h2 us
theorem sim_isiT {a : PV} {us : List Ty} {p : Addr} (s : SR X.K μ O H h) (ra : RT X.K H (μ.own O) a x) (hp : H p = some (.tup (us.map fun u => .ty (tyV u)))) (q : Q (.bl (us.any (tyP a))) H) : cS X (.builtin "isinstance") [x, .ref p] H Q := by
  obtain ⟨t, h1, h2⟩ := ty_of ra
  refine cS.of call_isiT ⟨_, _, _, _, us.map fun u => .type (tyV u), _, rfl, hp, ?_, h1, kit_any h2 us, q⟩
  clear hp q
  induction us with
  | nil => exact .nil
  | cons u us ih => exact .cons (.ty _) ih
end
end Br

set_option autoImplicit false
set_option linter.all false
set_option maxRecDepth 100000
/-! Calls, where it is known besides that no repr is under way around them. -/
namespace Br
open PySem PySem.Spec PyProof.Rows L2

structure FnG (P : Program) (w : World) (K : PySem.W.Frag) (mg : Str → Option Value) (base : Heap) (C : CXT) (k : Nat) (f : Addr) (fd : FuncData) (ps : List Str) (sp : Sp) : Prop where
  len : ∀ vs H Q E, sp vs H Q E → vs.length = ps.length
  run : ∀ (A : Around) (outer : List PySem.Env) (s : Shared) (H : Hp) (args : Args) (us : List Value) (vs : List V) (Q : VK) (E : XK), Room k A → A.guards = some [] →
    Env0 P w K mg base A outer s H → BindsTo s fd args (ps.zip us) → Vals vs us → sp vs H Q E → codeAny (model P w) A (.call (.ref f) args) (CR C outer P w H s Q E) s
section
variable {P : Program} {w : World} {K : PySem.W.Frag} {mg : Str → Option Value} {base : Heap} {C : CXT} {k : Nat} {f : Addr} {fd : FuncData} {N ps : List Str} {sp : Sp}
/-- a def by its body -/
theorem fnG_of {name qual : Str} {params : Arguments} {body : List Stmt} {scope : Scope} {dV kV doc pm cdv ct oc : Value} {an od : Option Addr} {osl : Array (Option Value)}
    (lk : K.lookup f = some ⟨oc, od, .func (PySem.W.fnOf name qual params body scope dV kV doc pm an cdv ct), osl⟩) (hcd : PySem.W.codeIn K cdv qual = true) (S : FnScope N ps scope)
    (len : ∀ vs H Q E, sp vs H Q E → vs.length = ps.length)
    (hb : ∀ (A : Around) (outer : List PySem.Env) (s : Shared) (H : Hp) (vs : List V) (Q : VK) (E : XK), Room k (A.deeper (envOfC qual scope s.heap.objs.size f cdv)) → (A.deeper (envOfC qual scope s.heap.objs.size f cdv)).guards = some [] → sp vs H Q E →
      ssS (cxOf C P w K mg base N qual scope f cdv A outer s H E) body { nx := fun _ H' => Q .non H', rt := Q } (start N vs) H) :
    FnG P w K mg base C (k + 1) f (PySem.W.fnOf name qual params body scope dV kV doc pm an cdv ct) ps sp where
  len := len
  run := fun A outer s H args us vs Q E hr hg e0 bt r hsp => by
    have kx : K.In s.heap := e0.mod.kin.keeps fun b o e => (e0.bs b o e).1
    have nl : s.heap.NoLimit := e0.mod.nolimit.keeps fun b o e => (e0.bs b o e).1
    have hkd : ∀ y ∈ ps.zip us, scope.names.lookup y.1 = some .local ∨ (scope.names.lookup y.1 = some .cell ∧ ((cellsFrom (s.heap.objs.size + 1) scope.names []).lookup y.1).isSome = true) := by
      intro y hy
      rcases S.par y.1 (List.of_mem_zip (a := y.1) (b := y.2) hy).1 with q | q
      · exact .inl q
      · exact .inr ⟨q, PySem.W.cellsFrom_some _ _ _ (.inl q)⟩
    refine codeAny_call_function hr.depth (kx _ _ lk) rfl S.co S.gen rfl (PySem.W.codeRec_of kx hcd) (bt _ _ _ _ (wpAny_newFunctionEnv_cells S.kind hkd fun env he s1 xx => ?_))
    subst he
    refine ⟨nl.keeps xx.toInCall.keep, codeAny_func ?_⟩
    have I : Inv (cxOf C P w K mg base N qual scope f cdv A outer s H E) [] (start N vs) H s1 := inv_start S hr.hd e0 (len _ _ _ _ hsp) r xx
    refine wpAny_mono (hb A outer s H vs Q E (hr.deeper _) hg hsp [] s1 I) (fun fl s' q => ?_) fun _ _ q => q
    cases fl with
    | ret u =>
      obtain ⟨v, σ', H', J, rv, z⟩ := q
      exact ⟨v, H', J.os, J.bare, J.base, J.hok, rv, z⟩
    | next =>
      obtain ⟨σ', H', J, z⟩ := q
      exact ⟨.non, H', J.os, J.bare, J.base, J.hok, rfl, z⟩
    | brk => obtain ⟨_, _, _, z⟩ := q; exact z.elim
    | cont => obtain ⟨_, _, _, z⟩ := q; exact z.elim
end
section
variable {X : Cx} {C : CXT} {k : Nat} {f : Addr} {fd : FuncData} {ps : List Str} {sp : Sp} {E : XK}
theorem runG {pins : List (Addr × Obj)} {σ : L2.St} {H : Hp} {s : Shared} {Q : VK} {us : List Value} {vs : List V} (F : FnG X.prog X.w X.K X.mg X.base C k f fd ps sp) (hr : Room k X.A) (hg : X.A.guards = some []) (hb : Binds X.K fd ps []) (hx : Passes C X E)
    (I : Inv X pins σ H s) (r : Vals vs us) (h : sp vs H Q E) : wpAny (model X.prog X.w) X.A (call (.ref f) us) (EP X pins σ Q) X.xe s := by
  have hl : (us ++ []).length = ps.length := by rw [List.append_nil, ← r.length]; exact F.len _ _ _ _ h
  have bt := hb s us I.kIn hl
  rw [List.append_nil] at bt
  refine wpAny_call (codeAny_mono (F.run X.A X.stack s H ⟨us, []⟩ us vs Q E hr hg I.env0 bt r h) fun res s' q => ?_)
  match res, q with
  | .error e, q => exact hx pins σ H s e s' I q
  | .ok (.ret u), q => exact I.after q
  | .ok .next, q => exact q.elim
  | .ok .brk, q => exact q.elim
  | .ok .cont, q => exact q.elim
/-- f(e, ..), f() of the program -/
theorem peG {x : Str} {p pos : Pos} {e : Expr} {es : List Expr} {t : TA} (F : FnG X.prog X.w X.K X.mg X.base C k f fd ps sp) (hr : Room k X.A) (hg : X.A.guards = some []) (hgl : Gl X x) (hm : X.mg x = some (.ref f)) (hk : PySem.W.keepIn X.K (.ref f) = true)
    (hb : Binds X.K fd ps []) (hx : Passes C X E) (ha : PA X (e :: es) t) (hdb : (x == ("__debug__" : Str)) = false)
    (he : starEach (e :: es) X.env = (false, eval e X.env) :: starEach es X.env) (hpl : (backTo pos (starEach es X.env)).any (·.1) = false) :
    PE X (.Call (.Name x p) (e :: es) [] pos) (fun σ H Q => t σ H fun vs H1 => sp vs H1 Q E) := by
  refine ⟨fun pins s σ H Q I h => wpAny_Call_Name_kw (ld_glob I hgl hm ?_ hdb)⟩
  refine PySem.W.callWith_K (h₀ := X.base) I.ok.mod.kin hk (thn (ha.run pos pins s σ H _ I h) fun us s1 z => ?_) he hpl
  obtain ⟨vs, H1, I1, r1, q1⟩ := z
  exact ⟨I1.kIn, runG F hr hg hb hx I1 r1 q1⟩
theorem peG0 {x : Str} {p pos : Pos} (F : FnG X.prog X.w X.K X.mg X.base C k f fd ps sp) (hr : Room k X.A) (hg : X.A.guards = some []) (hgl : Gl X x) (hm : X.mg x = some (.ref f)) (hk : PySem.W.keepIn X.K (.ref f) = true)
    (hb : Binds X.K fd ps []) (hx : Passes C X E) (hdb : (x == ("__debug__" : Str)) = false) :
    PE X (.Call (.Name x p) [] [] pos) (fun σ H Q => sp [] H Q E) :=
  ⟨fun pins s σ H Q I h => wpAny_Call_Name_kw (ld_glob I hgl hm (PySem.W.callWith_K0 I.kIn hk (runG (us := []) F hr hg hb hx I .nil h)) hdb)⟩
end
end Br

set_option autoImplicit false
set_option linter.all false
set_option maxRecDepth 100000
/-! The program's text as the small language's, and that an expression does what the evaluator says. -/
namespace Br
open PySem PySem.Spec PyProof.Rows L2

/-! ### from the text -/
structure Tab where
  fns : List (Str × Nat)
  glo : List (Str × Nat)
  thaw : List Pos := []
  frz : List Pos := []
def isG (sc : Scope) (x : Str) : Bool := decide (sc.names.lookup x = some .globalImplicit) && !(x == ("__debug__" : Str))
def isV (sc : Scope) (x : Str) : Bool :=
  (match sc.names.lookup x with
    | some .local => true
    | some .cell => true
    | some .free => true
    | _ => false) && !(x == ("__debug__" : Str)) && !(x == ("__classdict__" : Str))
def slotOf (N : List Str) (x : Str) : Option Nat := N.findIdx? (· == x)
def biTab : List (Str × Bi) := [("len", .len), ("tuple", .tuple), ("list", .list), ("abs", .abs), ("int", .int_), ("max", .max), ("min", .min), ("repr", .repr), ("ord", .ord), ("all", .all), ("any", .any)]
def tyTab : List (Str × Ty) := [("int", .int), ("bool", .bool), ("str", .str), ("tuple", .tuple), ("list", .list)]
/-- built-in names that the text must not have taken -/
def biNames : List Str := biTab.map (·.1) ++ tyTab.map (·.1) ++ ([("isinstance" : Str), ("range" : Str), ("zip" : Str), ("enumerate" : Str)] : List Str)
def bopOf : Operator → Option BOp
  | .Add => some .add
  | .Sub => some .sub
  | .Mult => some .mul
  | .FloorDiv => some .fdiv
  | .Mod => some .mod
  | .Pow => some .pow
  | _ => none
def copOf : CmpOp → COp
  | .Eq => .eq
  | .NotEq => .ne
  | .Lt => .lt
  | .LtE => .le
  | .Gt => .gt
  | .GtE => .ge
  | .In => .isin
  | .NotIn => .notin
  | .Is => .is_
  | .IsNot => .isnot
def noSet : Expr → Bool
  | .Set .. => false
  | _ => true
def noSlc : Expr → Bool
  | .Slice .. => false
  | _ => true
def noSup : Expr → Bool
  | .Call (.Name _ _) [] [] _ => false
  | _ => true
def noStar : Expr → Bool
  | .Starred .. => false
  | _ => true
def mapE (f : Expr → Option CE) : List Expr → Option (List CE)
  | [] => some []
  | e :: es => (f e).bind fun c => (mapE f es).map (c :: ·)
def mapO (f : Expr → Option CE) : Option Expr → Option (Option CE)
  | none => some none
  | some e => (f e).map some
def tyOf (sc : Scope) : Expr → Option Ty
  | .Name x _ => if isG sc x then tyTab.lookup x else none
  | _ => none
def tysOf (sc : Scope) : List Expr → Option (List Ty)
  | [] => some []
  | e :: es => (tyOf sc e).bind fun c => (tysOf sc es).map (c :: ·)
def thw (T : Tab) (pos : Pos) (c : CE) : CE := if T.thaw.contains pos then .thaw c else c
/-- the served comparisons -/
def cmpS : CmpOp → Bool
  | .In => false
  | .NotIn => false
  | _ => true
/-- a plain target: its slots -/
def sG (N : List Str) : Nat → Scope → Expr → Option CG
  | 0, _, _ => none
  | n + 1, sc, e => match e with
    | .Name x _ => if decide (sc.names.lookup x = some .local) || decide (sc.names.lookup x = some .cell) then (slotOf N x).map .nm else none
    | .Tuple es _ _ => (sGs N n sc es).map .tp
    | _ => none
where sGs (N : List Str) : Nat → Scope → List Expr → Option (List CG)
  | 0, _, _ => none
  | _ + 1, _, [] => some []
  | n + 1, sc, e :: es => (sG N n sc e).bind fun g => (sGs N n sc es).map (g :: ·)
mutual
def sE (T : Tab) (N : List Str) : Nat → Scope → Expr → Option CE
  | 0, _, _ => none
  | n + 1, sc, e => match e with
    | .Name x _ => if isV sc x then (slotOf N x).map .var else if isG sc x then (T.glo.lookup x).map .glo else none
    | .Constant (.int i) _ _ => some (.cst (.int i))
    | .Constant (.bool b) _ _ => some (.cst (.bl b))
    | .Constant .none _ _ => some (.cst .non)
    | .Constant (.str x) _ _ => if okS x.cps.toList then some (.cst (.str x.cps.toList)) else none
    | .BinOp a op b _ => (bopOf op).bind fun o => (sE T N n sc a).bind fun a' => (sE T N n sc b).map fun b' => .bin o a' b'
    | .UnaryOp .USub a _ => (sE T N n sc a).map .neg
    | .UnaryOp .Not a _ => (sE T N n sc a).map .not_
    | .BoolOp .And es _ => (mapE (sE T N n sc) es).map .and_
    | .BoolOp .Or es _ => (mapE (sE T N n sc) es).map .or_
    | .IfExp c a b _ => (sE T N n sc c).bind fun c' => (sE T N n sc a).bind fun a' => (sE T N n sc b).map fun b' => .ife c' a' b'
    | .Compare a [op] [b] _ => if noSet b && cmpS op then (sE T N n sc a).bind fun a' => (sE T N n sc b).map fun b' => .cmp (copOf op) a' b' else none
    | .Compare a [op, op'] [b, c] _ => if noSet c && cmpS op && cmpS op' then (sE T N n sc a).bind fun a' => (sE T N n sc b).bind fun b' => (sE T N n sc c).map fun c' => .cmp2 (copOf op) (copOf op') a' b' c' else none
    | .Tuple es _ _ => if es.length ≤ 1000 then (mapE (sE T N n sc) es).map .tup else none
    | .List es pos => if es.length ≤ 1000 then (mapE (sE T N n sc) es).map fun cs => thw T pos (.lst cs) else none
    | .Subscript a (.Slice lo hi none _) _ => (sE T N n sc a).bind fun a' => (mapO (sE T N n sc) lo).bind fun l => (mapO (sE T N n sc) hi).map fun u => .slc a' l u
    | .Subscript a i _ => if noSlc i then (sE T N n sc a).bind fun a' => (sE T N n sc i).map fun i' => .idx a' i' else none
    | .Call (.Name x _) es [] cpos => if isG sc x then (match T.fns.lookup x with
        | some f => (mapE (sE T N n sc) es).map (.call f)
        | none => if x == ("isinstance" : Str) then (match es with
            | [e, .Tuple ts _ _] => if ts.length ≤ 5 then (sE T N n sc e).bind fun c => (tysOf sc ts).map fun us => .isi c us else none
            | [e, t] => (sE T N n sc e).bind fun c => (tyOf sc t).map fun u => .isi c [u]
            | _ => none) else if x == ("range" : Str) then (match es with
              | [e] => (sE T N n sc e).map fun c => .rng [c]
              | [e, e2] => (sE T N n sc e).bind fun c => (sE T N n sc e2).map fun c2 => .rng [c, c2]
              | _ => none) else if x == ("repr" : Str) then (match es with
              | [e] => (sE T N n sc e).map .rpr
              | _ => none) else (match es with
            | [] => none
            | e :: es => (biTab.lookup x).bind fun b => (mapE (sE T N n sc) (e :: es)).map fun cs => if T.thaw.contains cpos && decide (b = .list) && es.isEmpty then .thaw (.bi b cs) else .bi b cs)) else none
    | .Call (.Attribute o m apos) [e] [] pos => if m == ("append" : Str) && noSup o && (apos.endLine == pos.line) then (sE T N n sc o).bind fun o' => (sE T N n sc e).map fun e' => .mth .append o' [e'] else none
    | .ListComp elt [⟨tg, it, ifs, 0⟩] scope pos =>
      (sI T N n sc tg it).bind fun ci => (sG N n scope tg).bind fun g => (sIf T N n scope ifs).bind fun c => (sE T N n scope elt).bind fun ce => (ownOf N scope).bind fun own =>
        if blkC N sc scope own && g.slots.all (fun i => (own.map (·.2)).contains i) then some (thw T pos (.comp (own.map (·.2)) g ci c ce)) else none
    | _ => none
def sIf (T : Tab) (N : List Str) : Nat → Scope → List Expr → Option (Option CE)
  | 0, _, _ => none
  | _ + 1, _, [] => some none
  | n + 1, sc, [e] => (sE T N n sc e).map some
  | _ + 1, _, _ => none
/-- what a loop walks -/
def sI (T : Tab) (N : List Str) : Nat → Scope → Expr → Expr → Option CI
  | 0, _, _, _ => none
  | n + 1, sc, tg, e => match e with
    | .Call (.Name x _) es [] _ => if isG sc x && (T.fns.lookup x).isNone then (if x == ("range" : Str) then (match es with
          | [e] => (sE T N n sc e).map fun c => .rng [c]
          | [e, e2] => (sE T N n sc e).bind fun c => (sE T N n sc e2).map fun c2 => .rng [c, c2]
          | _ => none) else if x == ("zip" : Str) then (match tg, es with
          | .Tuple _ _ _, [a, b] => (sE T N n sc a).bind fun a' => (sE T N n sc b).map fun b' => .zip a' b'
          | _, _ => none) else if x == ("enumerate" : Str) then (match tg, es with
          | .Tuple _ _ _, [a] => (sE T N n sc a).map .enm
          | _, _ => none) else (sE T N n sc e).map .val) else (sE T N n sc e).map .val
    | .Set .. => none
    | e => (sE T N n sc e).map .val
def ownOf (N : List Str) (scope : Scope) : Option (List (Str × Nat)) := ownL N scope.names
def ownL (N : List Str) : List (Str × NameKind) → Option (List (Str × Nat))
  | [] => some []
  | (x, .local) :: r => match slotOf N x with
    | some i => (ownL N r).map ((x, i) :: ·)
    | none => ownL N r
  | (x, .cell) :: r => match slotOf N x with
    | some i => (ownL N r).map ((x, i) :: ·)
    | none => ownL N r
  | _ :: r => ownL N r
end
end Br

set_option autoImplicit false
set_option linter.all false
set_option maxRecDepth 100000
namespace Br
open PySem PySem.Spec PyProof.Rows L2

theorem bind_ok {α β : Type} {r : Res α} {f : α → CH → Res β} {b : β} {h : CH} (e : r.bind f = .ok b h) : ∃ a h1, r = .ok a h1 ∧ f a h1 = .ok b h := by
  cases r with
  | ok a h1 => exact ⟨a, h1, rfl, e⟩
  | exc x h1 => cases e
  | err => cases e
theorem outP_ok {o : Option PV} {h h' : CH} {v : VV} (e : outP h o = .ok v h') : ∃ c, o = some c ∧ v = .p c ∧ h' = h := by
  cases o with
  | some c => cases e; exact ⟨c, rfl, rfl, rfl⟩
  | none => cases e
theorem outB_ok {o : Option Bool} {h h' : CH} {v : VV} (e : outB h o = .ok v h') : ∃ c, o = some c ∧ v = .p (.bl c) ∧ h' = h := by
  cases o with
  | some c => cases e; exact ⟨c, rfl, rfl, rfl⟩
  | none => cases e
theorem brO_ok {α : Type} {o : Option Bool} {a b : Res α} {v : α} {h' : CH} (e : brO o a b = .ok v h') : (o = some true ∧ a = .ok v h') ∨ (o = some false ∧ b = .ok v h') := by
  cases o with
  | none => cases e
  | some c => cases c with
    | true => exact .inl ⟨rfl, e⟩
    | false => exact .inr ⟨rfl, e⟩

/-- a def's promise: it does what the evaluator says -/
def spC (K : PySem.W.Frag) (k : Ask) (f np : Nat) : Sp := fun vs H Q _ => vs.length = np ∧ ∃ (μ : Mu) (O : Addr → Prop) (h : CH) (args : List VV) (v : VV) (h' : CH), SR K μ O H h ∧ RWs K μ O H args vs ∧ k f args h = .ok v h' ∧
  ∀ x μ' H', SR K μ' O H' h' → Stp K μ H μ' H' → RW K μ' O H' v x → Q x H'
/-- what is known of a body's context; sc: its names as they are written -/
structure SX (T : Tab) (G : Nat → Option PV) (k : Ask) (C : CXT) (X : Cx) (sc : Scope) : Prop where
  nd : X.N.Nodup
  calm : X.calm = true
  gd : X.A.guards = some []
  un : X.A.units + 100 < cLine
  kind : ∀ x kd, sc.names.lookup x = some kd → kd ≠ .free → X.env.scope.names.lookup x = some kd
  free : ∀ x, sc.names.lookup x = some .free → X.env.scope.names.lookup x = some .free ∨ X.env.scope.names.lookup x = some .cell
  fnc : ∀ x, sc.names.lookup x = some .cell → X.fn x = true
  glo : ∀ x g v, T.glo.lookup x = some g → G g = some v → ∃ u y, X.mg x = some u ∧ RelV y u ∧ ∀ μ O H h, SR X.K μ O H h → RP X.K H (μ.own O) v y
  fns : ∀ x f, T.fns.lookup x = some f → ∃ a fd lv ps np, X.mg x = some (.ref a) ∧ PySem.W.keepIn X.K (.ref a) = true ∧ FnG X.prog X.w X.K X.mg X.base C lv a fd ps (spC X.K k f np) ∧ Binds X.K fd ps [] ∧ Room lv X.A ∧
    ∀ args h v h', k f args h = .ok v h' → args.length = np
  bi : ∀ x, x ∈ biNames → X.mg x = none
  px : ∀ (X' : Cx) (E : XK), Passes C X' E
  po : PassesOwn (model X.prog X.w) X.A X.env X.xe
theorem isG_of {sc : Scope} {x : Str} (h : isG sc x = true) : sc.names.lookup x = some .globalImplicit ∧ (x == ("__debug__" : Str)) = false := by
  unfold isG at h
  simp only [Bool.and_eq_true, Bool.not_eq_true'] at h
  exact ⟨of_decide_eq_true h.1, h.2⟩
theorem SX.gl {T : Tab} {G : Nat → Option PV} {k : Ask} {C : CXT} {X : Cx} {sc : Scope} (hX : SX T G k C X sc) {x : Str} (h : isG sc x = true) : Gl X x := hX.kind x _ (isG_of h).1 (by decide)

section
variable (X : Cx) (G : Nat → Option PV) (k : Ask)
def SEt (t : TE) (c : CE) : Prop := ∀ (μ : Mu) (O : Addr → Prop) (H : Hp) (h : CH) (σ : L2.St) (ρ : Env) (v : VV) (h' : CH) (Q : VK), SR X.K μ O H h → RE X.K μ O H ρ σ → evE G k c ρ h = .ok v h' →
  (∀ x μ' H', SR X.K μ' O H' h' → Stp X.K μ H μ' H' → RW X.K μ' O H' v x → Q x H') → t σ H Q
def SE (e : Expr) (c : CE) : Prop := SEt X G k (tS X e) c
def SEs (es : List Expr) (cs : List CE) : Prop := ∀ (μ : Mu) (O : Addr → Prop) (H : Hp) (h : CH) (σ : L2.St) (ρ : Env) (vs : List VV) (h' : CH) (Q : List V → Hp → Prop), SR X.K μ O H h → RE X.K μ O H ρ σ → evEs G k cs ρ h = .ok vs h' →
  (∀ xs μ' H', SR X.K μ' O H' h' → Stp X.K μ H μ' H' → RWs X.K μ' O H' vs xs → Q xs H') → tAS X es σ H Q
/-- as a test -/
def SB (e : Expr) (c : CE) : Prop := ∀ (μ : Mu) (O : Addr → Prop) (H : Hp) (h : CH) (σ : L2.St) (ρ : Env) (v : VV) (b : Bool) (h' : CH) (Q : Bool → Hp → Prop), SR X.K μ O H h → RE X.K μ O H ρ σ → evE G k c ρ h = .ok v h' → truth h' v = some b →
  (∀ μ' H', SR X.K μ' O H' h' → Stp X.K μ H μ' H' → Q b H') → tTS X e σ H Q
/-- a new list: its place is known to be new -/
def SLt (t : TE) (c : CE) : Prop := ∀ (μ : Mu) (O : Addr → Prop) (H : Hp) (h : CH) (σ : L2.St) (ρ : Env) (v : VV) (h' : CH) (Q : VK), SR X.K μ O H h → RE X.K μ O H ρ σ → evE G k c ρ h = .ok v h' →
  (∀ D xs vs μ' H1, v = .p (.lst xs) → SR X.K μ' O H1 h' → Stp X.K μ H μ' H1 → H1 D = none → RPs X.K H1 (μ'.own O) xs vs → Q (.ref D) (upd H1 D (.lst vs))) → t σ H Q
def SL (e : Expr) (c : CE) : Prop := SLt X G k (tS X e) c
end

section
variable {X : Cx} {G : Nat → Option PV} {k : Ask} {T : Tab} {C : CXT} {sc : Scope}
theorem SLt.se {t : TE} {c : CE} (h : SLt X G k t c) : SEt X G k t c := by
  intro μ O H h0 σ ρ v h' Q s r ev q
  refine h μ O H h0 σ ρ v h' Q s r ev fun D xs vs μ' H1 e1 s1 t1 hD rp => ?_
  subst e1
  exact q _ μ' _ (s1.new hD) (t1.trans (Stp.new hD)) (.p (RP.newL s1 hD rp))
theorem SLt.thaw {t : TE} {c : CE} (h : SLt X G k t c) : SEt X G k t (.thaw c) := by
  intro μ O H h0 σ ρ v h' Q s r ev q
  unfold evE at ev
  obtain ⟨a, h1, e1, e2⟩ := bind_ok ev
  refine h μ O H h0 σ ρ a h1 Q s r e1 fun D xs vs μ' H1 e3 s1 t1 hD rp => ?_
  subst e3
  cases e2
  refine q _ (μ'.add D) _ (s1.cellAdd hD rp) (t1.trans (Stp.cell s1 hD)) (.r ?_ fun a e => ?_)
  · show _ < μ'.len + 1
    rw [s1.len]; exact Nat.lt_succ_self _
  · have e' : (if h1.length = μ'.len then some D else μ'.fn h1.length) = some a := e
    rw [if_pos s1.len.symm] at e'
    cases e'; rfl
theorem SLt.thw {t : TE} {c : CE} {pos : Pos} (h : SLt X G k t c) : SEt X G k t (Br.thw T pos c) := by
  unfold Br.thw
  split
  · exact h.thaw
  · exact h.se

theorem star_cons {e : Expr} {es : List Expr} {env : PySem.Env} (h : noStar e = true) : starEach (e :: es) env = (false, eval e env) :: starEach es env := by
  cases e <;> first | rfl | cases h
theorem star_any {pos : Pos} {env : PySem.Env} : ∀ {es : List Expr}, (∀ e ∈ es, noStar e = true) → (backTo pos (starEach es env)).any (·.1) = false
  | [], _ => rfl
  | e :: es, h => by
    rw [star_cons (h e List.mem_cons_self)]
    have := star_any (pos := pos) (env := env) (es := es) fun e he => h e (List.mem_cons_of_mem _ he)
    show (false || (backTo pos (starEach es env)).any (·.1)) = false
    rw [this]; rfl
theorem ses_nil : SEs X G k [] [] := by
  intro μ O H h σ ρ vs h' Q s r ev q
  unfold evEs at ev
  cases ev
  exact tAS.of pa_nil (q [] μ H s Stp.refl .nil)
theorem ses_cons {e : Expr} {es : List Expr} {c : CE} {cs : List CE} (hn : noStar e = true) (he : SE X G k e c) (hs : SEs X G k es cs) : SEs X G k (e :: es) (c :: cs) := by
  intro μ O H h σ ρ vs h' Q s r ev q
  unfold evEs at ev
  obtain ⟨v, h1, e1, ev⟩ := bind_ok ev
  obtain ⟨ws, h2, e2, ev⟩ := bind_ok ev
  cases ev
  refine tAS.of (pa_cons pe_S pa_S (star_cons hn)) ?_
  refine he μ O H h σ ρ v h1 _ s r e1 fun x μ1 H1 s1 t1 r1 => ?_
  exact hs μ1 O H1 h1 σ ρ ws h' _ s1 (r.step t1) e2 fun xs μ2 H2 s2 t2 r2 => q _ μ2 H2 s2 (t1.trans t2) (.cons (r1.step t2) r2)

/-! ### single forms -/
theorem se_var {i : Nat} {x : Str} {pos : Pos} (hX : SX T G k C X sc) (hN : X.N[i]? = some x) (hv : isV sc x = true) : SE X G k (.Name x pos) (.var i) := by
  intro μ O H h σ ρ v h' Q s r ev q
  unfold isV at hv
  simp only [Bool.and_eq_true, Bool.not_eq_true'] at hv
  have vis : Vis X.env.scope x := by
    have z := hv.1.1
    unfold Vis
    split at z
    · rename_i w; exact .inl (hX.kind x _ w (by decide))
    · rename_i w; exact .inr (.inl (hX.kind x _ w (by decide)))
    · rename_i w; exact .inr ((hX.free x w).symm)
    · cases z
  unfold evE at ev
  split at ev
  · rename_i w hw
    cases ev
    obtain ⟨y, e1, r1⟩ := r.at_ i _ hw
    exact tS.of (pe_var hN vis hv.1.2 hv.2) ⟨y, e1, q y μ H s Stp.refl r1⟩
  · cases ev
theorem se_glo {x : Str} {g : Nat} {pos : Pos} (hX : SX T G k C X sc) (hg : isG sc x = true) (ht : T.glo.lookup x = some g) : SE X G k (.Name x pos) (.glo g) := by
  intro μ O H h σ ρ v h' Q s r ev q
  unfold evE at ev
  obtain ⟨c, e1, e2, e3⟩ := outP_ok ev
  subst e2 e3
  obtain ⟨u, y, m, rl, rp⟩ := hX.glo x g c ht e1
  exact tS.of (pe_glob (hX.gl hg) m rl (isG_of hg).2) (q y μ H s Stp.refl (.p (rp μ O H h' s)))
theorem se_int {i : Int} {j : Nat} {pos : Pos} : SE X G k (.Constant (.int i) j pos) (.cst (.int i)) := by
  intro μ O H h σ ρ v h' Q s r ev q
  unfold evE at ev; cases ev
  exact tS.of pe_int (q _ μ H s Stp.refl (.p (.int i)))
theorem se_bl {i : Bool} {j : Nat} {pos : Pos} : SE X G k (.Constant (.bool i) j pos) (.cst (.bl i)) := by
  intro μ O H h σ ρ v h' Q s r ev q
  unfold evE at ev; cases ev
  exact tS.of pe_bl (q _ μ H s Stp.refl (.p (.bl i)))
theorem se_non {j : Nat} {pos : Pos} : SE X G k (.Constant .none j pos) (.cst .non) := by
  intro μ O H h σ ρ v h' Q s r ev q
  unfold evE at ev; cases ev
  exact tS.of pe_non (q _ μ H s Stp.refl (.p .non))
theorem se_str {x : Str} {j : Nat} {pos : Pos} (ho : okS x.cps.toList = true) : SE X G k (.Constant (.str x) j pos) (.cst (.str x.cps.toList)) := by
  intro μ O H h σ ρ v h' Q s r ev q
  unfold evE at ev; cases ev
  exact tS.of pe_str (q _ μ H s Stp.refl (.p (.str _ ho)))
theorem bop_eq {op : Operator} {o : BOp} (h : bopOf op = some o) : bopE o = op := by
  cases op <;> simp [bopOf] at h <;> subst h <;> rfl
theorem cop_eq (op : CmpOp) : copE (copOf op) = op := by cases op <;> rfl
theorem cop_ok {op : CmpOp} (h : cmpS op = true) (a b : PV) : cmpOk (copOf op) a b = true := by
  cases op <;> first | rfl | cases h
theorem se_bin {a b : Expr} {ca cb : CE} {op : Operator} {o : BOp} {pos : Pos} (ho : bopOf op = some o) (ha : SE X G k a ca) (hb : SE X G k b cb) : SE X G k (.BinOp a op b pos) (.bin o ca cb) := by
  intro μ O H h σ ρ v h' Q s r ev q
  unfold evE at ev
  obtain ⟨v1, h1, e1, ev⟩ := bind_ok ev
  obtain ⟨v2, h2, e2, ev⟩ := bind_ok ev
  obtain ⟨c, e3, rfl, rfl⟩ := outP_ok ev
  unfold binW at e3
  obtain ⟨x, e4, e3⟩ := Option.bind_eq_some_iff.mp e3
  obtain ⟨y, e5, e3⟩ := Option.bind_eq_some_iff.mp e3
  rw [← bop_eq ho]
  refine tS.of (pe_op op_S pe_S pe_S) ?_
  refine ha μ O H h σ ρ v1 h1 _ s r e1 fun x1 μ1 H1 s1 t1 r1 => ?_
  refine hb μ1 O H1 h1 σ ρ v2 h' _ s1 (r.step t1) e2 fun x2 μ2 H2 s2 t2 r2 => ?_
  exact sim_bin s2 e3 (look_rt s2 (r1.step t2) e4) (look_rt s2 r2 e5) fun z H3 s3 t3 r3 => q z μ2 H3 s3 ((t1.trans t2).trans t3) (.p r3)
theorem se_neg {a : Expr} {ca : CE} {pos : Pos} (ha : SE X G k a ca) : SE X G k (.UnaryOp .USub a pos) (.neg ca) := by
  intro μ O H h σ ρ v h' Q s r ev q
  unfold evE at ev
  obtain ⟨v1, h1, e1, ev⟩ := bind_ok ev
  refine tS.of (pe_un un_neg pe_S) ?_
  refine ha μ O H h σ ρ v1 h1 _ s r e1 fun x1 μ1 H1 s1 t1 r1 => ?_
  split at ev
  · cases ev
    cases r1 with | p r1 => cases r1; exact ⟨_, rfl, q _ μ1 H1 s1 t1 (.p (.int _))⟩
  · cases ev
theorem tru_of {K : PySem.W.Frag} {μ : Mu} {O : Addr → Prop} {H : Hp} {h : CH} {v : VV} {x : V} {b : Bool} (s : SR K μ O H h) (r : RW K μ O H v x) (e : truth h v = some b) : TruV K x H b := by
  unfold truth at e
  obtain ⟨p, e1, e2⟩ := Option.map_eq_some_iff.mp e
  subst e2
  exact sim_tru (look_rt s r e1)
theorem se_not {a : Expr} {ca : CE} {pos : Pos} (ha : SE X G k a ca) : SE X G k (.UnaryOp .Not a pos) (.not_ ca) := by
  intro μ O H h σ ρ v h' Q s r ev q
  unfold evE at ev
  obtain ⟨v1, h1, e1, ev⟩ := bind_ok ev
  obtain ⟨c, e3, rfl, rfl⟩ := outB_ok ev
  obtain ⟨b, e4, rfl⟩ := Option.map_eq_some_iff.mp e3
  refine tS.of (pe_notT pe_S) ?_
  exact ha μ O H h σ ρ v1 h' _ s r e1 fun x1 μ1 H1 s1 t1 r1 => ⟨b, tru_of s1 r1 e4, q _ μ1 H1 s1 t1 (.p (.bl _))⟩
theorem se_and {pos : Pos} : ∀ {es : List Expr} {cs : List CE}, (∃ f, mapE f es = some cs ∧ ∀ e c, f e = some c → SE X G k e c) → SE X G k (.BoolOp .And es pos) (.and_ cs)
  | [], cs, ⟨f, e, _⟩ => by
    intro μ O H h σ ρ v h' Q s r ev q
    cases e
    unfold evE evAnd at ev
    cases ev
  | e :: es, cs, ⟨f, hm, hf⟩ => by
    unfold mapE at hm
    obtain ⟨c, e1, hm⟩ := Option.bind_eq_some_iff.mp hm
    obtain ⟨cs', e2, rfl⟩ := Option.map_eq_some_iff.mp hm
    have hc := hf e c e1
    have ih := se_and (pos := pos) (es := es) (cs := cs') ⟨f, e2, hf⟩
    intro μ O H h σ ρ v h' Q s r ev q
    unfold evE evAnd at ev
    obtain ⟨v1, h1, e3, ev⟩ := bind_ok ev
    cases es with
    | nil =>
      cases e2
      cases ev
      exact tS.of (pe_one pe_S) (hc μ O H h σ ρ _ _ _ s r e3 q)
    | cons e' es =>
      cases cs' with
      | nil =>
        unfold mapE at e2
        obtain ⟨_, _, e2⟩ := Option.bind_eq_some_iff.mp e2
        obtain ⟨_, _, e2⟩ := Option.map_eq_some_iff.mp e2
        cases e2
      | cons c' cs' =>
        refine tS.of (pe_andT pe_S pe_S) ?_
        refine hc μ O H h σ ρ v1 h1 _ s r e3 fun x1 μ1 H1 s1 t1 r1 => ?_
        rcases brO_ok ev with ⟨z, ev⟩ | ⟨z, ev⟩
        · refine ⟨true, tru_of s1 r1 z, ?_⟩
          rw [if_pos rfl]
          exact ih μ1 O H1 h1 σ ρ v h' _ s1 (r.step t1) (by unfold evE; exact ev) fun x2 μ2 H2 s2 t2 r2 => q x2 μ2 H2 s2 (t1.trans t2) r2
        · cases ev
          exact ⟨false, tru_of s1 r1 z, q x1 μ1 H1 s1 t1 r1⟩
theorem se_or {pos : Pos} : ∀ {es : List Expr} {cs : List CE}, (∃ f, mapE f es = some cs ∧ ∀ e c, f e = some c → SE X G k e c) → SE X G k (.BoolOp .Or es pos) (.or_ cs)
  | [], cs, ⟨f, e, _⟩ => by
    intro μ O H h σ ρ v h' Q s r ev q
    cases e
    unfold evE evOr at ev
    cases ev
  | e :: es, cs, ⟨f, hm, hf⟩ => by
    unfold mapE at hm
    obtain ⟨c, e1, hm⟩ := Option.bind_eq_some_iff.mp hm
    obtain ⟨cs', e2, rfl⟩ := Option.map_eq_some_iff.mp hm
    have hc := hf e c e1
    have ih := se_or (pos := pos) (es := es) (cs := cs') ⟨f, e2, hf⟩
    intro μ O H h σ ρ v h' Q s r ev q
    unfold evE evOr at ev
    obtain ⟨v1, h1, e3, ev⟩ := bind_ok ev
    cases es with
    | nil =>
      cases e2
      cases ev
      exact tS.of (pe_one pe_S) (hc μ O H h σ ρ _ _ _ s r e3 q)
    | cons e' es =>
      cases cs' with
      | nil =>
        unfold mapE at e2
        obtain ⟨_, _, e2⟩ := Option.bind_eq_some_iff.mp e2
        obtain ⟨_, _, e2⟩ := Option.map_eq_some_iff.mp e2
        cases e2
      | cons c' cs' =>
        refine tS.of (pe_orT pe_S pe_S) ?_
        refine hc μ O H h σ ρ v1 h1 _ s r e3 fun x1 μ1 H1 s1 t1 r1 => ?_
        rcases brO_ok ev with ⟨z, ev⟩ | ⟨z, ev⟩
        · cases ev
          exact ⟨true, tru_of s1 r1 z, q x1 μ1 H1 s1 t1 r1⟩
        · refine ⟨false, tru_of s1 r1 z, ?_⟩
          rw [if_neg Bool.false_ne_true]
          exact ih μ1 O H1 h1 σ ρ v h' _ s1 (r.step t1) (by unfold evE; exact ev) fun x2 μ2 H2 s2 t2 r2 => q x2 μ2 H2 s2 (t1.trans t2) r2
theorem se_ife {c a b : Expr} {cc ca cb : CE} {pos : Pos} (hc : SB X G k c cc) (ha : SE X G k a ca) (hb : SE X G k b cb) : SE X G k (.IfExp c a b pos) (.ife cc ca cb) := by
  intro μ O H h σ ρ v h' Q s r ev q
  unfold evE at ev
  obtain ⟨v1, h1, e1, ev⟩ := bind_ok ev
  refine tS.of (pe_ifExp pt_S pe_S pe_S) ?_
  rcases brO_ok ev with ⟨z, ev⟩ | ⟨z, ev⟩
  · refine hc μ O H h σ ρ v1 true h1 _ s r e1 z fun μ1 H1 s1 t1 => ?_
    rw [if_pos rfl]
    exact ha μ1 O H1 h1 σ ρ v h' _ s1 (r.step t1) ev fun x2 μ2 H2 s2 t2 r2 => q x2 μ2 H2 s2 (t1.trans t2) r2
  · refine hc μ O H h σ ρ v1 false h1 _ s r e1 z fun μ1 H1 s1 t1 => ?_
    rw [if_neg Bool.false_ne_true]
    exact hb μ1 O H1 h1 σ ρ v h' _ s1 (r.step t1) ev fun x2 μ2 H2 s2 t2 r2 => q x2 μ2 H2 s2 (t1.trans t2) r2
theorem mark_of {op : CmpOp} {b : Expr} (h : noSet b = true) : behindInMarks op b = false := by
  cases b <;> first | rfl | cases h
mutual
theorem PV.beq_eq : ∀ {a b : PV}, PV.beq a b = true → a = b
  | .non, b, h => by cases b <;> first | rfl | (simp [PV.beq] at h)
  | .bl x, b, h => by
    cases b <;> simp [PV.beq] at h
    rw [h]
  | .int x, b, h => by
    cases b <;> simp [PV.beq] at h
    rw [h]
  | .str x, b, h => by
    cases b <;> simp [PV.beq] at h
    rw [h]
  | .tup xs, b, h => by
    cases b <;> simp [PV.beq] at h
    rw [PV.beqL_eq h]
  | .lst xs, b, h => by
    cases b <;> simp [PV.beq] at h
    rw [PV.beqL_eq h]
theorem PV.beqL_eq : ∀ {a b : List PV}, PV.beqL a b = true → a = b
  | [], b, h => by cases b <;> first | rfl | (simp [PV.beqL] at h)
  | x :: xs, b, h => by
    cases b with
    | nil => simp [PV.beqL] at h
    | cons y ys =>
      simp [PV.beqL] at h
      rw [PV.beq_eq h.1, PV.beqL_eq h.2]
end
theorem sim_cmpW {op : CmpOp} {v w : VV} {c : Bool} {μ : Mu} {O : Addr → Prop} {H : Hp} {h : CH} {x y : V} {Q : VK} (s : SR X.K μ O H h) (hu : X.A.units + 64 < cLine) (hok : cmpS op = true) (hc : cmpW h (copOf op) v w = some c) (ra : RW X.K μ O H v x) (rb : RW X.K μ O H w y) (q : Q (.bl c) H) :
    oS X (compareOp op) x y H Q := by
  unfold cmpW at hc
  split at hc
  · rename_i a b
    cases ra
    cases rb
    cases op <;> simp only [copOf, cmpT] at hc <;> first | (cases hc; done) | skip
    · split at hc
      · rename_i hb
        cases hc
        cases PV.beq_eq hb
        exact oS.of op_eq ⟨rfl, by simpa using q⟩
      · cases hc
    · split at hc
      · rename_i hb
        cases hc
        cases PV.beq_eq hb
        exact oS.of op_ne ⟨rfl, by simpa using q⟩
      · cases hc
  · unfold cmpD at hc
    obtain ⟨a, e4, hc⟩ := Option.bind_eq_some_iff.mp hc
    obtain ⟨b, e5, hc⟩ := Option.bind_eq_some_iff.mp hc
    have z := sim_cmp (Q := Q) s hu (cop_ok hok a b) hc (look_rt s ra e4) (look_rt s rb e5) q
    rw [cop_eq] at z
    exact z
theorem se_cmp {a b : Expr} {ca cb : CE} {op : CmpOp} {pos : Pos} (hX : SX T G k C X sc) (hn : noSet b = true) (ho : cmpS op = true) (ha : SE X G k a ca) (hb : SE X G k b cb) : SE X G k (.Compare a [op] [b] pos) (.cmp (copOf op) ca cb) := by
  intro μ O H h σ ρ v h' Q s r ev q
  unfold evE at ev
  obtain ⟨v1, h1, e1, ev⟩ := bind_ok ev
  obtain ⟨v2, h2, e2, ev⟩ := bind_ok ev
  obtain ⟨c, e3, rfl, rfl⟩ := outB_ok ev
  refine tS.of (pe_cmpR op_S pe_S pe_S (mark_of hn)) ?_
  refine ha μ O H h σ ρ v1 h1 _ s r e1 fun x1 μ1 H1 s1 t1 r1 => ?_
  refine hb μ1 O H1 h1 σ ρ v2 h' _ s1 (r.step t1) e2 fun x2 μ2 H2 s2 t2 r2 => ?_
  exact sim_cmpW (Q := Q) s2 (by have := hX.un; omega) ho e3 (r1.step t2) r2 (q _ μ2 H2 s2 (t1.trans t2) (.p (.bl _)))
theorem se_cmp2 {a b c : Expr} {ca cb cc : CE} {op op' : CmpOp} {pos : Pos} (hX : SX T G k C X sc) (hn : noSet c = true) (ho : cmpS op = true) (ho' : cmpS op' = true) (ha : SE X G k a ca) (hb : SE X G k b cb) (hc : SE X G k c cc) :
    SE X G k (.Compare a [op, op'] [b, c] pos) (.cmp2 (copOf op) (copOf op') ca cb cc) := by
  intro μ O H h σ ρ v h' Q s r ev q
  unfold evE at ev
  obtain ⟨v1, h1, e1, ev⟩ := bind_ok ev
  obtain ⟨v2, h2, e2, ev⟩ := bind_ok ev
  refine tS.of (pe_chain op_S op_S pe_S pe_S pe_S (show behindInMarks op' c = false from mark_of hn)) ?_
  refine ha μ O H h σ ρ v1 h1 _ s r e1 fun x1 μ1 H1 s1 t1 r1 => ?_
  refine hb μ1 O H1 h1 σ ρ v2 h2 _ s1 (r.step t1) e2 fun x2 μ2 H2 s2 t2 r2 => ?_
  have hu : X.A.units + 64 < cLine := by have := hX.un; omega
  have go : ∀ {b : Bool}, cmpW h2 (copOf op) v1 v2 = some b → ∀ {Q' : VK}, Q' (.bl b) H2 → oS X (compareOp op) x1 x2 H2 Q' := fun {b} z {Q'} q' => by
    exact sim_cmpW (Q := Q') s2 hu ho z (r1.step t2) r2 q'
  rcases brO_ok ev with ⟨z, ev⟩ | ⟨z, ev⟩
  · refine go z ⟨true, rfl, ?_⟩
    rw [if_pos rfl]
    obtain ⟨v3, h3, e6, ev⟩ := bind_ok ev
    obtain ⟨d, e7, rfl, rfl⟩ := outB_ok ev
    refine hc μ2 O H2 h2 σ ρ v3 h' _ s2 (r.step (t1.trans t2)) e6 fun x3 μ3 H3 s3 t3 r3 => ?_
    exact sim_cmpW (Q := Q) s3 hu ho' e7 (r2.step t3) r3 (q _ μ3 H3 s3 ((t1.trans t2).trans t3) (.p (.bl _)))
  · cases ev
    refine go z ⟨false, rfl, ?_⟩
    rw [if_neg Bool.false_ne_true]
    exact q _ μ2 H2 s2 (t1.trans t2) (.p (.bl _))
theorem evEs_len : ∀ {cs : List CE} {ρ : Env} {h h' : CH} {vs : List VV}, evEs G k cs ρ h = .ok vs h' → vs.length = cs.length
  | [], _, _, _, _, e => by unfold evEs at e; cases e; rfl
  | c :: cs, _, _, _, _, e => by
    unfold evEs at e
    obtain ⟨v, h1, e1, e⟩ := bind_ok e
    obtain ⟨ws, h2, e2, e⟩ := bind_ok e
    cases e
    rw [List.length_cons, List.length_cons, evEs_len e2]
theorem RWs.length {K : PySem.W.Frag} {μ : Mu} {O : Addr → Prop} {H : Hp} : ∀ {vs : List VV} {xs : List V}, RWs K μ O H vs xs → xs.length = vs.length
  | _, _, .nil => rfl
  | _, _, .cons _ t => by rw [List.length_cons, List.length_cons, RWs.length t]
theorem line_of {n : Nat} (h : n ≤ 1000) : n ≤ sizeLine := by rw [sizeLine_eq]; omega
theorem se_tup {es : List Expr} {cs : List CE} {j : Nat} {pos : Pos} (hl : cs.length ≤ 1000) (h1 : SEs X G k es cs) : SE X G k (.Tuple es j pos) (.tup cs) := by
  intro μ O H h σ ρ v h' Q s r ev q
  unfold evE at ev
  obtain ⟨vs, h2, e1, ev⟩ := bind_ok ev
  obtain ⟨c, e3, rfl, rfl⟩ := outP_ok ev
  obtain ⟨xs, e4, rfl⟩ := Option.map_eq_some_iff.mp e3
  refine tS.of (pe_tup pa_S) ?_
  refine h1 μ O H h σ ρ vs h' _ s r e1 fun ws μ1 H1 s1 t1 r1 => ⟨?_, fun p hp => q _ μ1 _ (s1.new hp) (t1.trans (Stp.new hp)) (.p (RP.newT s1 hp (pursOf_rp r1 e4)))⟩
  rw [r1.length, evEs_len e1]
  exact line_of hl
theorem sl_lst {es : List Expr} {cs : List CE} {pos : Pos} (hl : cs.length ≤ 1000) (h1 : SEs X G k es cs) : SL X G k (.List es pos) (.lst cs) := by
  intro μ O H h σ ρ v h' Q s r ev q
  unfold evE at ev
  obtain ⟨vs, h2, e1, ev⟩ := bind_ok ev
  obtain ⟨c, e3, rfl, rfl⟩ := outP_ok ev
  obtain ⟨xs, e4, rfl⟩ := Option.map_eq_some_iff.mp e3
  refine tS.of (pe_lst pa_S) ?_
  refine h1 μ O H h σ ρ vs h' _ s r e1 fun ws μ1 H1 s1 t1 r1 => ⟨?_, fun p hp => q p _ _ μ1 H1 rfl s1 t1 hp (pursOf_rp r1 e4)⟩
  rw [r1.length, evEs_len e1]
  exact line_of hl
theorem plain_of {i : Expr} (h : noSlc i = true) : PlainIx i := fun _ _ => by
  cases i <;> first | rfl | cases h
theorem se_idx {a i : Expr} {ca ci : CE} {pos : Pos} (hn : noSlc i = true) (ha : SE X G k a ca) (hi : SE X G k i ci) : SE X G k (.Subscript a i pos) (.idx ca ci) := by
  intro μ O H h σ ρ v h' Q s r ev q
  unfold evE at ev
  obtain ⟨v1, h1, e1, ev⟩ := bind_ok ev
  obtain ⟨v2, h2, e2, ev⟩ := bind_ok ev
  obtain ⟨c, e3, rfl, rfl⟩ := outP_ok ev
  unfold idxW at e3
  obtain ⟨x, e4, e3⟩ := Option.bind_eq_some_iff.mp e3
  obtain ⟨y, e5, e3⟩ := Option.bind_eq_some_iff.mp e3
  refine tS.of (pe_ix ix_S pe_S pe_S (plain_of hn)) ?_
  refine ha μ O H h σ ρ v1 h1 _ s r e1 fun x1 μ1 H1 s1 t1 r1 => ?_
  refine hi μ1 O H1 h1 σ ρ v2 h' _ s1 (r.step t1) e2 fun x2 μ2 H2 s2 t2 r2 => ?_
  exact sim_idx s2 e3 (look_rt s2 (r1.step t2) e4) (look_rt s2 r2 e5) fun z H3 s3 t3 r3 => q z μ2 H3 s3 ((t1.trans t2).trans t3) (.p r3)
/-- a bound of a slice -/
def SO (X : Cx) (G : Nat → Option PV) (k : Ask) (e : Option Expr) (c : Option CE) : Prop := match e, c with
  | none, none => True
  | some e, some c => SE X G k e c
  | _, _ => False
def tOS (X : Cx) (e : Option Expr) : TO := fun σ H Q => ∀ (pins : List (Addr × Obj)) (s : Shared), Inv X pins σ H s → wpAny (model X.prog X.w) X.A (evalPart e X.env) (fun u s' => ∃ o H', Inv X pins σ H' s' ∧ IsPart u o ∧ Q o H') X.xe s
theorem po_S {e : Option Expr} : PO X e (tOS X e) := ⟨fun pins s _ _ _ I h => h pins s I⟩
theorem so_run {e : Option Expr} {c : Option CE} (hs : SO X G k e c) {μ : Mu} {O : Addr → Prop} {H : Hp} {h : CH} {σ : L2.St} {ρ : Env} {v : Option VV} {o : Option Int} {h' : CH} {Q : Option Int → Hp → Prop} (s : SR X.K μ O H h) (r : RE X.K μ O H ρ σ)
    (ev : evO G k c ρ h = .ok v h') (hb : bound v = some o) (q : ∀ μ' H', SR X.K μ' O H' h' → Stp X.K μ H μ' H' → Q o H') : tOS X e σ H Q := by
  cases e with
  | none =>
    cases c with
    | none =>
      unfold evO at ev
      cases ev
      cases hb
      exact fun pins st I => po_none.run pins st σ H Q I (q μ H s Stp.refl)
    | some c => exact hs.elim
  | some e =>
    cases c with
    | none => exact hs.elim
    | some c =>
      have hs' : SE X G k e c := hs
      unfold evO at ev
      obtain ⟨w, h1, e1, ev⟩ := bind_ok ev
      cases ev
      intro pins st I
      refine (po_some pe_S).run pins st σ H Q I ?_
      refine hs' μ O H h σ ρ w h' _ s r e1 fun x μ1 H1 s1 t1 r1 => ?_
      unfold bound at hb
      split at hb
      · rename_i z; cases z
      · rename_i i z
        cases z
        cases hb
        cases r1 with | p r1 => cases r1; exact ⟨_, rfl, q μ1 H1 s1 t1⟩
      · cases hb
theorem se_slc {a : Expr} {lo hi : Option Expr} {ca : CE} {cl cu : Option CE} {p2 pos : Pos} (ha : SE X G k a ca) (hl : SO X G k lo cl) (hu : SO X G k hi cu) : SE X G k (.Subscript a (.Slice lo hi none p2) pos) (.slc ca cl cu) := by
  intro μ O H h σ ρ v h' Q s r ev q
  unfold evE at ev
  obtain ⟨v1, h1, e1, ev⟩ := bind_ok ev
  obtain ⟨v2, h2, e2, ev⟩ := bind_ok ev
  obtain ⟨v3, h3, e3, ev⟩ := bind_ok ev
  obtain ⟨c, e4, rfl, rfl⟩ := outP_ok ev
  unfold slcW at e4
  obtain ⟨x, e5, e4⟩ := Option.bind_eq_some_iff.mp e4
  obtain ⟨a1, e6, e4⟩ := Option.bind_eq_some_iff.mp e4
  obtain ⟨b1, e7, e4⟩ := Option.bind_eq_some_iff.mp e4
  refine tS.of (pe_slice sl_S pe_S po_S po_S) ?_
  refine ha μ O H h σ ρ v1 h1 _ s r e1 fun x1 μ1 H1 s1 t1 r1 => ?_
  refine so_run hl s1 (r.step t1) e2 e6 fun μ2 H2 s2 t2 => ?_
  refine so_run hu s2 (r.step (t1.trans t2)) e3 e7 fun μ3 H3 s3 t3 => ?_
  exact sim_slc s3 e4 (look_rt s3 (r1.step (t2.trans t3)) e5) fun z H4 s4 t4 r4 => q z μ3 H4 s4 (((t1.trans t2).trans t3).trans t4) (.p r4)
theorem se_call {x : Str} {f : Nat} {es : List Expr} {cs : List CE} {p pos : Pos} (hX : SX T G k C X sc) (hg : isG sc x = true) (ht : T.fns.lookup x = some f) (hn : ∀ e ∈ es, noStar e = true) (hlen : cs.length = es.length) (h1 : SEs X G k es cs) : SE X G k (.Call (.Name x p) es [] pos) (.call f cs) := by
  intro μ O H h σ ρ v h' Q s r ev q
  unfold evE at ev
  obtain ⟨vs, h2, e1, ev⟩ := bind_ok ev
  obtain ⟨a, fd, lv, ps, np, m, kp, F, B, room, hnp⟩ := hX.fns x f ht
  have go : ∀ ws μ1 H1, SR X.K μ1 O H1 h2 → Stp X.K μ H μ1 H1 → RWs X.K μ1 O H1 vs ws → spC X.K k f np ws H1 Q E0 := fun ws μ1 H1 s1 t1 r1 =>
    ⟨by rw [r1.length]; exact hnp _ _ _ _ ev, μ1, O, h2, vs, v, h', s1, r1, ev, fun y μ2 H2 s2 t2 r2 => q y μ2 H2 s2 (t1.trans t2) r2⟩
  cases es with
  | nil =>
    refine tS.of (peG0 (E := E0) F room hX.gd (hX.gl hg) m kp B (hX.px _ _) (isG_of hg).2) ?_
    cases cs with
    | nil =>
      unfold evEs at e1
      cases e1
      exact go [] μ H s Stp.refl .nil
    | cons c cs => simp at hlen
  | cons e es =>
    refine tS.of (peG (E := E0) F room hX.gd (hX.gl hg) m kp B (hX.px _ _) pa_S (isG_of hg).2 (star_cons (hn e List.mem_cons_self)) (star_any fun e' he => hn e' (List.mem_cons_of_mem _ he))) ?_
    exact h1 μ O H h σ ρ vs h2 _ s r e1 go

/-! ### built-in functions -/
theorem bi_boot : ∀ {x : Str} {b : Bi}, biTab.lookup x = some b → x ∈ biNames ∧ bootBuiltins x = some (biV b) ∧ x ≠ ("__name__" : Str) := by
  intro x b h
  have mem : (x, b) ∈ biTab := PySem.mem_of_lookup h
  have all : ∀ p ∈ biTab, p.1 ∈ biNames ∧ bootBuiltins p.1 = some (biV p.2) ∧ p.1 ≠ ("__name__" : Str) := by
    unfold biTab
    intro p hp
    simp only [List.mem_cons, List.not_mem_nil, or_false] at hp
    rcases hp with rfl | rfl | rfl | rfl | rfl | rfl | rfl | rfl | rfl | rfl | rfl
    all_goals exact ⟨by decide +kernel, by kernel_rfl, by decide +kernel⟩
  exact all (x, b) mem
theorem pe_bi {x : Str} {b : Bi} {p pos : Pos} {e : Expr} {es : List Expr} {t : TA} {r : List V → Hp → VK → Prop} (hb : biTab.lookup x = some b) (hc : CallR X (biV b) r) (hg : Gl X x) (hdb : (x == ("__debug__" : Str)) = false) (hm : X.mg x = none) (ha : PA X (e :: es) t)
    (he : starEach (e :: es) X.env = (false, eval e X.env) :: starEach es X.env) (hpl : (backTo pos (starEach es X.env)).any (·.1) = false) : PE X (.Call (.Name x p) (e :: es) [] pos) (tCB r t) := by
  obtain ⟨_, h2, h3⟩ := bi_boot hb
  cases b
  case tuple => exact pe_callTy hc hg hm h2 ha h3 hdb he hpl
  case list => exact pe_callTy hc hg hm h2 ha h3 hdb he hpl
  case int_ => exact pe_callTy hc hg hm h2 ha h3 hdb he hpl
  case str_ => exact pe_callTy hc hg hm h2 ha h3 hdb he hpl
  all_goals exact pe_callB hc hg hm h2 ha h3 hdb he hpl
theorem rps_ints {K : PySem.W.Frag} {H : Hp} {M : Addr → Prop} : ∀ ns : List Int, RPs K H M (ns.map PV.int) (ns.map V.int)
  | [] => .nil
  | n :: ns => .cons (.int n) (rps_ints ns)
theorem se_bi {x : Str} {b : Bi} {e : Expr} {es : List Expr} {cs : List CE} {p pos : Pos} (hX : SX T G k C X sc) (hg : isG sc x = true) (hb : biTab.lookup x = some b) (hn : ∀ e' ∈ e :: es, noStar e' = true) (h1 : SEs X G k (e :: es) cs) :
    SE X G k (.Call (.Name x p) (e :: es) [] pos) (.bi b cs) := by
  intro μ O H h σ ρ v h' Q s r ev q
  unfold evE at ev
  obtain ⟨vs, h2, e1, ev⟩ := bind_ok ev
  obtain ⟨c, e3, rfl, rfl⟩ := outP_ok ev
  refine tS.of (pe_bi hb call_S (hX.gl hg) (isG_of hg).2 (hX.bi x (bi_boot hb).1) pa_S (star_cons (hn e List.mem_cons_self)) (star_any fun e' he => hn e' (List.mem_cons_of_mem _ he))) ?_
  refine h1 μ O H h σ ρ vs h' _ s r e1 fun ws μ1 H1 s1 t1 r1 => ?_
  have gen : (lookAll h' vs).bind (biP b) = some c → cS X (biV b) ws H1 Q := fun e3 => by
    obtain ⟨as, e4, e5⟩ := Option.bind_eq_some_iff.mp e3
    exact sim_bi hX.calm s1 e5 (lookAll_rt s1 r1 e4) fun z H2 s2 t2 r2 => q z μ1 H2 s2 (t1.trans t2) (.p r2)
  unfold biW at e3
  split at e3
  · cases e3
    cases r1 with
    | cons r1 t =>
      cases t
      cases r1 with
      | s sq =>
        refine cS.of call_list_of ⟨_, _, rfl, .inl sq.sqL, fun l hl => q _ μ1 _ (s1.new hl) (t1.trans (Stp.new hl)) (.p (RP.newL s1 hl ?_))⟩
        exact rps_ints _
  · exact gen e3
theorem sl_list {x : Str} {e : Expr} {c : CE} {p pos : Pos} (hX : SX T G k C X sc) (hg : isG sc x = true) (hb : biTab.lookup x = some .list) (hn : noStar e = true) (h1 : SE X G k e c) : SL X G k (.Call (.Name x p) [e] [] pos) (.bi .list [c]) := by
  intro μ O H h σ ρ v h' Q s r ev q
  unfold evE evEs at ev
  obtain ⟨vs, h2, e1, ev⟩ := bind_ok ev
  obtain ⟨v1, h3, e0, e1⟩ := bind_ok e1
  unfold evEs at e1
  cases e1
  obtain ⟨c, e3, rfl, rfl⟩ := outP_ok ev
  refine tS.of (pe_bi hb call_S (hX.gl hg) (isG_of hg).2 (hX.bi x (bi_boot hb).1) (pa_cons pe_S pa_nil (star_cons hn)) (star_cons hn) (star_any fun e' he => by cases he)) ?_
  refine h1 μ O H h σ ρ v1 h' _ s r e0 fun y μ1 H1 s1 t1 r1 => ?_
  unfold biW at e3
  split at e3
  · rename_i heq
    cases e3
    cases heq
    cases r1 with
    | s sq => exact cS.of call_list_of ⟨_, _, rfl, .inl sq.sqL, fun l hl => q l _ _ μ1 H1 rfl s1 t1 hl (rps_ints _)⟩
  · obtain ⟨as, e4, e5⟩ := Option.bind_eq_some_iff.mp e3
    obtain ⟨z, e6, e7⟩ := Option.bind_eq_some_iff.mp e4
    cases e7
    have r2 := look_rt s1 r1 e6
    cases z with
    | tup xs =>
      cases e5
      obtain ⟨a, ws, rfl, qa, na, ta⟩ := r2.tup
      exact cS.of call_list_of ⟨_, _, rfl, .inr qa, fun l hl => q l _ _ μ1 H1 rfl s1 t1 hl ta⟩
    | lst xs =>
      cases e5
      obtain ⟨a, ws, rfl, qa, ta⟩ := r2.lst
      exact cS.of call_list_of ⟨_, _, rfl, .inl (.of qa), fun l hl => q l _ _ μ1 H1 rfl s1 t1 hl ta⟩
    | _ => cases e5
theorem se_rpr {x : Str} {e : Expr} {c : CE} {p pos : Pos} (hx : x = ("repr" : Str)) (hX : SX T G k C X sc) (hg : isG sc x = true) (hn : noStar e = true) (h1 : SE X G k e c) : SE X G k (.Call (.Name x p) [e] [] pos) (.rpr c) := by
  intro μ O H h σ ρ v h' Q s r ev q
  unfold evE at ev
  obtain ⟨v1, h2, e1, ev⟩ := bind_ok ev
  have hb : biTab.lookup x = some .repr := by rw [hx]; kernel_rfl
  refine tS.of (pe_bi hb call_S (hX.gl hg) (isG_of hg).2 (hX.bi x (bi_boot hb).1) (pa_cons pe_S pa_nil (star_cons hn)) (star_cons hn) (star_any fun e' he => by cases he)) ?_
  refine h1 μ O H h σ ρ v1 h2 _ s r e1 fun y μ1 H1 s1 t1 r1 => ?_
  split at ev
  · rename_i z hz
    split at ev
    · rename_i ok
      cases ev
      exact sim_repr hX.gd hX.un s1 ok (look_rt s1 r1 hz) (q _ μ1 H1 s1 t1 .t)
    · cases ev
  · cases ev
theorem pa_two {e e2 : Expr} (hn : noStar e = true) (hn2 : noStar e2 = true) {te te2 : TE} (h1 : PE X e te) (h2 : PE X e2 te2) : PA X [e, e2] (tCons te (tCons te2 tNil)) := pa_cons h1 (pa_cons h2 pa_nil (star_cons hn2)) (star_cons hn)
theorem ty_boot {x : Str} {u : Ty} (h : tyTab.lookup x = some u) : x ∈ biNames ∧ bootBuiltins x = some (.type (tyV u)) ∧ x ≠ ("__name__" : Str) := by
  have mem : (x, u) ∈ tyTab := PySem.mem_of_lookup h
  have all : ∀ p ∈ tyTab, p.1 ∈ biNames ∧ bootBuiltins p.1 = some (.type (tyV p.2)) ∧ p.1 ≠ ("__name__" : Str) := by
    unfold tyTab
    intro p hp
    simp only [List.mem_cons, List.not_mem_nil, or_false] at hp
    rcases hp with rfl | rfl | rfl | rfl | rfl
    all_goals exact ⟨by decide +kernel, by kernel_rfl, by decide +kernel⟩
  exact all (x, u) mem
theorem pe_ty {e : Expr} {u : Ty} (hX : SX T G k C X sc) (h : tyOf sc e = some u) : PE X e (tC (.ty (tyV u))) ∧ noStar e = true := by
  unfold tyOf at h
  split at h
  · split at h
    · rename_i hg
      obtain ⟨h1, h2, h3⟩ := ty_boot h
      exact ⟨pe_bltn (hX.gl hg) (hX.bi _ h1) h2 rfl h3 (isG_of hg).2, rfl⟩
    · cases h
  · cases h
theorem pa_tys {es : List Expr} {us : List Ty} (hX : SX T G k C X sc) (h : tysOf sc es = some us) : PA X es (fun σ H Q => Q (us.map fun u => .ty (tyV u)) H) := by
  induction es generalizing us with
  | nil => cases h; exact pa_nil
  | cons e es ih =>
    unfold tysOf at h
    obtain ⟨u, h1, h⟩ := Option.bind_eq_some_iff.mp h
    obtain ⟨us', h2, rfl⟩ := Option.map_eq_some_iff.mp h
    obtain ⟨h3, h4⟩ := pe_ty hX h1
    exact pa_cons h3 (ih h2) (star_cons h4)
theorem tys_len {sc : Scope} : ∀ {es : List Expr} {us : List Ty}, tysOf sc es = some us → us.length = es.length
  | [], us, h => by cases h; rfl
  | e :: es, us, h => by
    unfold tysOf at h
    obtain ⟨u, h1, h⟩ := Option.bind_eq_some_iff.mp h
    obtain ⟨us', h2, rfl⟩ := Option.map_eq_some_iff.mp h
    rw [List.length_cons, List.length_cons, tys_len h2]
theorem isi_names : ("isinstance" : Str) ∈ biNames := by decide +kernel
theorem boot_isi : bootBuiltins ("isinstance" : Str) = some (.builtin "isinstance") := by kernel_rfl
theorem se_isi {e t : Expr} {c : CE} {u : Ty} {p pos : Pos} (hX : SX T G k C X sc) (hg : isG sc ("isinstance" : Str) = true) (hn : noStar e = true) (h1 : SE X G k e c) (ht : tyOf sc t = some u) :
    SE X G k (.Call (.Name ("isinstance" : Str) p) [e, t] [] pos) (.isi c [u]) := by
  intro μ O H h σ ρ v h' Q s r ev q
  unfold evE at ev
  obtain ⟨w, h2, e1, ev⟩ := bind_ok ev
  obtain ⟨b, e3, rfl, rfl⟩ := outB_ok ev
  obtain ⟨y, e4, rfl⟩ := Option.map_eq_some_iff.mp e3
  obtain ⟨h3, h4⟩ := pe_ty hX ht
  refine tS.of (pe_callB call_S (hX.gl hg) (hX.bi _ isi_names) boot_isi (pa_two hn h4 pe_S h3) (by decide +kernel) (isG_of hg).2 (star_cons hn) (star_any fun e' he => by
    have z : e' = t := by simpa using he
    rw [z]; exact h4)) ?_
  refine h1 μ O H h σ ρ w h' _ s r e1 fun x μ1 H1 s1 t1 r1 => ?_
  have z := sim_isi (u := u) (Q := Q) s1 (look_rt s1 r1 e4) (by
    have := q _ μ1 H1 s1 t1 (.p (.bl ([u].any (tyP y))))
    simpa using this)
  exact z
theorem se_isiT {e : Expr} {ts : List Expr} {c : CE} {us : List Ty} {j : Nat} {p pos tpos : Pos} (hX : SX T G k C X sc) (hg : isG sc ("isinstance" : Str) = true) (hn : noStar e = true) (h1 : SE X G k e c) (ht : tysOf sc ts = some us) (hl : ts.length ≤ 5) :
    SE X G k (.Call (.Name ("isinstance" : Str) p) [e, .Tuple ts j tpos] [] pos) (.isi c us) := by
  intro μ O H h σ ρ v h' Q s r ev q
  unfold evE at ev
  obtain ⟨w, h2, e1, ev⟩ := bind_ok ev
  obtain ⟨b, e3, rfl, rfl⟩ := outB_ok ev
  obtain ⟨y, e4, rfl⟩ := Option.map_eq_some_iff.mp e3
  refine tS.of (pe_callB call_S (hX.gl hg) (hX.bi _ isi_names) boot_isi (pa_two hn rfl pe_S (pe_tup (pa_tys hX ht))) (by decide +kernel) (isG_of hg).2 (star_cons hn) (star_any fun e' he => by
    have z : e' = .Tuple ts j tpos := by simpa using he
    rw [z]; rfl)) ?_
  refine h1 μ O H h σ ρ w h' _ s r e1 fun x μ1 H1 s1 t1 r1 => ⟨?_, fun tp htp => ?_⟩
  · rw [List.length_map, tys_len ht]
    exact line_of (by omega)
  · have s2 : SR X.K μ1 O (upd H1 tp (.tup (us.map fun u => .ty (tyV u)))) h' := s1.new htp
    have t2 : Stp X.K μ1 H1 μ1 (upd H1 tp (.tup (us.map fun u => .ty (tyV u)))) := Stp.new htp
    exact sim_isiT (us := us) (p := tp) s2 (look_rt s2 (r1.step t2) e4) upd_same (q _ μ1 _ s2 (t1.trans t2) (.p (.bl _)))
theorem base_of {o : Expr} {name : Str} {env : PySem.Env} {w : Sem Value} (h : noSup o = true) : attributeBase o name env w = w := by
  unfold attributeBase
  split
  · simp [noSup] at h
  · rfl
theorem se_append {o e : Expr} {co ce : CE} {apos pos : Pos} (hn : noStar e = true) (hs : noSup o = true) (hl : (apos.endLine == pos.line) = true) (ho : SE X G k o co) (he : SE X G k e ce) : SE X G k (.Call (.Attribute o ("append" : Str) apos) [e] [] pos) (.mth .append co [ce]) := by
  intro μ O H h σ ρ v h' Q s r ev q
  unfold evE at ev
  obtain ⟨w, h1, e1, ev⟩ := bind_ok ev
  cases hlook : look h1 w with
  | none => rw [hlook] at ev; cases ev
  | some pv =>
    rw [hlook] at ev
    obtain ⟨vs, h2, e2, ev⟩ := bind_ok ev
    unfold evEs at e2
    obtain ⟨y, h3, e3, e2⟩ := bind_ok e2
    unfold evEs at e2
    cases e2
    have ev : mthW .append w [y] h2 = .ok v h' := ev
    cases w with
    | p _ => cases ev
    | g _ _ => cases ev
    | s _ => cases ev
    | t _ => cases ev
    | r n =>
    cases y with
    | r _ => cases ev
    | g _ _ => cases ev
    | s _ => cases ev
    | t _ => cases ev
    | p x =>
      unfold mthW at ev
      simp only at ev
      split at ev
      · rename_i xs hc
        split at ev
        · rename_i hlen
          cases ev
          have few : ((backTo pos (starEach [e] X.env)).all (fun x => !x.1) && (backToKw pos (keywordEach [] X.env)).all (fun x => x.1.isSome)
              && decide (([e] : List Expr).length + ([] : List Keyword).length + (if ([] : List Keyword).isEmpty then 0 else 1) < 30)) = true := by
            rw [star_cons hn]; rfl
          refine tS.of (pe_bm PySem.F.plainAttrs_list PySem.F.slot_list_append PySem.F.type_list_append mt_append pe_S (pa_cons pe_S pa_nil (star_cons hn)) (base_of hs) few hl (star_cons hn) rfl) ?_
          refine ho μ O H h σ ρ _ h1 _ s r e1 fun x1 μ1 H1 s1 t1 r1 => ?_
          have rt := look_rt s1 r1 hlook
          have hpv : ∃ ys, pv = .lst ys := by
            unfold look at hlook
            simp only at hlook
            split at hlook
            · cases hlook; exact ⟨_, rfl⟩
            · cases hlook
          obtain ⟨ys, rfl⟩ := hpv
          obtain ⟨a1, ws, rfl, qa, ta⟩ := rt.lst
          refine ⟨.inl ⟨rfl, _, .of qa⟩, ?_⟩
          refine he μ1 O H1 h1 σ ρ _ h2 _ s1 (r.step t1) e3 fun x2 μ2 H2 s2 t2 r2 => ?_
          obtain ⟨b, zs, f1, f2, f4⟩ := s2.cell n xs hc
          have r1' := r1.step t2
          cases r1' with
          | r hn2 hx =>
            have hb := hx b f1
            cases hb
            cases r2 with
            | p r2 =>
              refine ⟨a1, zs, x2, rfl, rfl, f2, ?_, ?_⟩
              · rw [f4.length, sizeLine_eq]; omega
              · exact q _ μ2 _ (s2.write f1 (f4.append (.cons r2 .nil))) ((t1.trans t2).trans (Stp.write f1)) (.p .non)
        · cases ev
      · cases ev
theorem rngOf_bd {ps : List PV} {lo hi : Int} (h : rangeOf ps = some (lo, hi)) : (ps = [.int hi] ∧ lo = 0 ∧ -(2 ^ 62) ≤ hi ∧ hi < 2 ^ 62) ∨ (ps = [.int lo, .int hi] ∧ (-(2 ^ 62) ≤ lo ∧ lo < 2 ^ 62) ∧ -(2 ^ 62) ≤ hi ∧ hi < 2 ^ 62) := by
  unfold rangeOf at h
  split at h
  · split at h
    · rename_i z; cases h; exact .inl ⟨rfl, rfl, z.1, z.2⟩
    · cases h
  · split at h
    · rename_i z; cases h; exact .inr ⟨rfl, z⟩
    · cases h
  · cases h
end
end Br

set_option autoImplicit false
set_option linter.all false
set_option maxRecDepth 100000
namespace Br
open PySem PySem.Spec PyProof.Rows L2

/-! ### what is walked -/
def ItOk (K : PySem.W.Frag) (O : Addr → Prop) (μ0 : Mu) (H0 : Hp) (src : Option (Nat × List PV)) (xs : List PV) (J : It) : Prop :=
  ∀ (μ1 : Mu) (O1 : Addr → Prop) (H1 : Hp) (h1 : CH), SR K μ1 O1 H1 h1 → Stp K μ0 H0 μ1 H1 → (∀ a, O1 a → O a ∨ H0 a = none) → still src h1 = true →
    (∀ (i : Nat) x, xs[i]? = some x → J.go i H1 ∧ ∀ y H2, J.yld i H1 y H2 → SR K μ1 O1 H2 h1 ∧ Stp K μ1 H1 μ1 H2 ∧ RP K H2 (μ1.own O1) x y) ∧ ∀ i, xs.length ≤ i → J.stop i H1
def SI (X : Cx) (G : Nat → Option PV) (k : Ask) (tg e : Expr) (ci : CI) : Prop := ∀ (μ : Mu) (O : Addr → Prop) (H : Hp) (h : CH) (σ : L2.St) (ρ : Env) (src : Option (Nat × List PV)) (xs : List PV) (h' : CH) (R : It → Hp → Prop),
  SR X.K μ O H h → RE X.K μ O H ρ σ → evI G k ci ρ h = .ok (src, xs) h' → (∀ J μ' H', SR X.K μ' O H' h' → Stp X.K μ H μ' H' → ItOk X.K O μ' H' src xs J → R J H') → tIS X tg e σ H R
def tItS (X : Cx) (tg : Expr) (x : V) (H : Hp) (R : It → Hp → Prop) : Prop := ∀ (pins : List (Addr × Obj)) (s : Shared) (σ : L2.St) (u : Value), Inv X pins σ H s → RelV x u → wpAny (model X.prog X.w) X.A (pyIter u) (PIE X pins σ tg R) X.xe s
section
variable {X : Cx} {tg e : Expr} {σ : L2.St} {H : Hp} {R : It → Hp → Prop}
theorem tIS.val (h : tS X e σ H fun x H1 => tItS X tg x H1 R) : tIS X tg e σ H R := fun pins s I => thn (h pins s I) fun u s1 ⟨x, H1, I1, r1, q1⟩ => q1 pins s1 σ u I1 r1
theorem it_list {a : Addr} {vs : List V} (hq : SqL X.K H a vs) (q : R (Itl X.K a) H) : tItS X tg (.ref a) H R := fun pins s σ u I r => by
  cases r
  obtain ⟨its, rv, p, hz⟩ := I.list hq
  exact wpAny_pyIter_list p.isList (pi_one (tk := s.toks) I _ (turn_list a _) ⟨_, Heap.get?_push_size _ rfl, rfl, rfl⟩ q)
theorem it_tup {a : Addr} {vs : List V} (hq : SqT X.K H a vs) (q : R (Itt X.K a) H) : tItS X tg (.ref a) H R := fun pins s σ u I r => by
  cases r
  obtain ⟨its, rv, p, hz⟩ := I.tuple hq
  exact wpAny_pyIter_tuple (show s.heap.IsTuple a its.toArray from p) (pi_one (tk := s.toks) I _ (turn_tuple a _) ⟨_, Heap.get?_push_size _ rfl, rfl, rfl⟩ q)
theorem it_str {x : Str} (q : R (Its x) H) : tItS X tg (.str x) H R := fun pins s σ u I r => by
  obtain ⟨t, rfl⟩ := r
  cases ha : x.cps.all (· < 128)
  · exact wpAny_pyIter_wide ha (pi_one (tk := s.toks) I _ (turn_str _ x t "str_iterator" (.inr rfl)) ⟨_, Heap.get?_push_size _ rfl, rfl, rfl⟩ q)
  · exact wpAny_pyIter_ascii ha (pi_one (tk := s.toks) I _ (turn_str _ x t "str_ascii_iterator" (.inl rfl)) ⟨_, Heap.get?_push_size _ rfl, rfl, rfl⟩ q)
theorem it_rng {a : Addr} {lo hi : Int} (hq : H a = some (.rng lo hi)) (hb : (-(2 ^ 62) ≤ lo ∧ lo < 2 ^ 62) ∧ -(2 ^ 62) ≤ hi ∧ hi < 2 ^ 62) (q : R (Itr lo (hi - lo).toNat) H) : tItS X tg (.ref a) H R := fun pins s σ u I r => by
  cases r
  obtain ⟨t, u, v, e⟩ : ∃ t u v, s.heap.get? a = some { cls := .type "range", data := .fields #[.int lo t, .int hi u, .int 1 v] } := I.hok a _ hq
  refine wpAny_pyIter_range (show IsRange s.heap a lo hi 1 t u v from e) (small_one hb.1.1 hb.1.2 hb.2.1 hb.2.2) ?_
  refine pi_one (tk := s.toks) I _ (turn_range _ lo (hi - lo).toNat) ?_ q
  have e1 : lo + ((0 : Nat) : Int) * 1 = lo := by simp
  have e2 : (((hi - lo).toNat : Nat) : Int) - ((0 : Nat) : Int) = Builtin.Range.rangeSize lo hi 1 := by rw [rangeSize_one]; split <;> omega
  show IsRangeIter _ _ (lo + ((0 : Nat) : Int) * 1) ((((hi - lo).toNat : Nat) : Int) - ((0 : Nat) : Int)) 1
  rw [e1, e2]
  exact Heap.get?_push_size _ rfl
end
section
variable {K : PySem.W.Frag} {μ μ' : Mu} {O O' : Addr → Prop} {H H' : Hp} {h : CH}
theorem Stp.ownO (t : Stp K μ H μ' H') (hO : ∀ a, O' a → O a ∨ H a = none) : ∀ a, μ'.own O' a → μ.own O a ∨ H a = none := fun a z => by
  rcases z with z | ⟨n, z⟩
  · rcases hO a z with z | z
    · exact .inl (.inl z)
    · exact .inr z
  · rcases t.nw n a z with z | ⟨z1, _⟩
    · exact .inl (.inr ⟨n, z⟩)
    · exact .inr z1
theorem RP.stepO (t : Stp K μ H μ' H') (hO : ∀ a, O' a → O a ∨ H a = none) {x : PV} {v : V} (r : RP K H (μ.own O) x v) : RP K H' (μ'.own O') x v :=
  r.mono t.keepM (t.ownO hO)
theorem RW.stepO (t : Stp K μ H μ' H') (hO : ∀ a, O' a → O a ∨ H a = none) {x : VV} {v : V} (r : RW K μ O H x v) : RW K μ' O' H' x v := by
  cases r with
  | p r => exact .p (r.stepO t hO)
  | r n e =>
    refine .r (Nat.lt_of_lt_of_le n t.le) fun a z => ?_
    rcases t.nw _ a z with z | ⟨_, z⟩
    · exact e a z
    · omega
  | g e n b =>
    refine .g (t.keepM _ _ e n) (fun z => ?_) b
    rcases t.ownO hO _ z with z | z
    · exact n z
    · rw [e] at z; cases z
  | s q => exact .s (q.mono t.keepM (t.ownO hO))
  | t => exact .t
theorem RE.stepO (t : Stp K μ H μ' H') (hO : ∀ a, O' a → O a ∨ H a = none) {ρ : Env} {σ : L2.St} (r : RE K μ O H ρ σ) : RE K μ' O' H' ρ σ :=
  ⟨r.len, fun i v e => let ⟨x, e1, r1⟩ := r.at_ i v e; ⟨x, e1, r1.stepO t hO⟩⟩
theorem RPs.stepO (t : Stp K μ H μ' H') (hO : ∀ a, O' a → O a ∨ H a = none) : ∀ {xs : List PV} {vs : List V}, RPs K H (μ.own O) xs vs → RPs K H' (μ'.own O') xs vs
  | _, _, .nil => .nil
  | _, _, .cons r q => .cons (r.stepO t hO) (RPs.stepO t hO q)
theorem sqL_keep {a : Addr} {vs : List V} (t : Stp K μ H μ' H') (n : ¬ μ.own O a) (q : H a = some (.lst vs)) : SqL K H' a vs := .of (t.keepM a _ q n)
mutual
theorem beq_eq : ∀ {x y : PV}, PV.beq x y = true → x = y
  | .non, .non, _ => rfl
  | .bl a, .bl b, h => by simp [PV.beq] at h; rw [h]
  | .int a, .int b, h => by simp [PV.beq] at h; rw [h]
  | .str a, .str b, h => by simp [PV.beq] at h; rw [h]
  | .tup a, .tup b, h => by rw [beqL_eq (show PV.beqL a b = true by simpa [PV.beq] using h)]
  | .lst a, .lst b, h => by rw [beqL_eq (show PV.beqL a b = true by simpa [PV.beq] using h)]
  | .non, .bl _, h | .non, .int _, h | .non, .str _, h | .non, .tup _, h | .non, .lst _, h => by simp [PV.beq] at h
  | .bl _, .non, h | .bl _, .int _, h | .bl _, .str _, h | .bl _, .tup _, h | .bl _, .lst _, h => by simp [PV.beq] at h
  | .int _, .non, h | .int _, .bl _, h | .int _, .str _, h | .int _, .tup _, h | .int _, .lst _, h => by simp [PV.beq] at h
  | .str _, .non, h | .str _, .bl _, h | .str _, .int _, h | .str _, .tup _, h | .str _, .lst _, h => by simp [PV.beq] at h
  | .tup _, .non, h | .tup _, .bl _, h | .tup _, .int _, h | .tup _, .str _, h | .tup _, .lst _, h => by simp [PV.beq] at h
  | .lst _, .non, h | .lst _, .bl _, h | .lst _, .int _, h | .lst _, .str _, h | .lst _, .tup _, h => by simp [PV.beq] at h
theorem beqL_eq : ∀ {xs ys : List PV}, PV.beqL xs ys = true → xs = ys
  | [], [], _ => rfl
  | x :: xs, y :: ys, h => by
    have h' : PV.beq x y = true ∧ PV.beqL xs ys = true := by simpa [PV.beqL] using h
    rw [beq_eq h'.1, beqL_eq h'.2]
  | [], _ :: _, h => by simp [PV.beqL] at h
  | _ :: _, [], h => by simp [PV.beqL] at h
end
theorem itOk_lst {a : Addr} {vs : List V} {xs : List PV} (q : H a = some (.lst vs)) (n : ¬ μ.own O a) (r : RPs K H (μ.own O) xs vs) : ItOk K O μ H none xs (Itl K a) := by
  intro μ1 O1 H1 h1 s1 t1 hO st
  have q1 : SqL K H1 a vs := sqL_keep t1 n q
  refine ⟨fun i x e => ?_, fun i hi => ⟨vs, q1, by rw [r.length]; exact hi⟩⟩
  obtain ⟨v, e1, r1⟩ := r.get e
  refine ⟨⟨vs, v, q1, e1⟩, fun y H2 hy => ?_⟩
  obtain ⟨rfl, hy⟩ := hy
  have e2 := hy vs q1
  rw [e1] at e2; cases e2
  exact ⟨s1, Stp.refl, r1.stepO t1 hO⟩
theorem itOk_tup {a : Addr} {vs : List V} {xs : List PV} (n : TupAt K H (μ.own O) a vs) (r : RPs K H (μ.own O) xs vs) : ItOk K O μ H none xs (Itt K a) := by
  intro μ1 O1 H1 h1 s1 t1 hO st
  have q1 : SqT K H1 a vs := (n.mono t1.keepM (t1.ownM (O := O))).sqT
  refine ⟨fun i x e => ?_, fun i hi => ⟨vs, q1, by rw [r.length]; exact hi⟩⟩
  obtain ⟨v, e1, r1⟩ := r.get e
  refine ⟨⟨vs, v, q1, e1⟩, fun y H2 hy => ?_⟩
  obtain ⟨rfl, hy⟩ := hy
  have e2 := hy vs q1
  rw [e1] at e2; cases e2
  exact ⟨s1, Stp.refl, r1.stepO t1 hO⟩
theorem itOk_cell {n : Nat} {a : Addr} {xs : List PV} (s : SR K μ O H h) (e : μ.fn n = some a) (hc : h[n]? = some (.lst xs)) : ItOk K O μ H (some (n, xs)) xs (Itl K a) := by
  intro μ1 O1 H1 h1 s1 t1 hO st
  unfold still at st
  simp only at st
  split at st
  · rename_i ys hys
    have e1 := beqL_eq st
    subst e1
    obtain ⟨b, vs, f1, f2, f4⟩ := s1.cell n xs hys
    have hb : b = a := by
      rcases t1.nw n b f1 with z | ⟨_, z⟩
      · rw [e] at z; cases z; rfl
      · have := s.dom n a e; omega
    subst hb
    refine ⟨fun i x e => ?_, fun i hi => ⟨vs, .of f2, by rw [f4.length]; exact hi⟩⟩
    obtain ⟨v, e1, r1⟩ := f4.get e
    refine ⟨⟨vs, v, .of f2, e1⟩, fun y H2 hy => ?_⟩
    obtain ⟨rfl, hy⟩ := hy
    have e2 := hy vs (.of f2)
    rw [e1] at e2; cases e2
    exact ⟨s1, Stp.refl, r1⟩
  · cases st
theorem itOk_script {a : Addr} {ns : List Int} (q : LstAt K H (μ.own O) a (ns.map V.int)) : ItOk K O μ H none (ns.map .int) (Itl K a) := by
  intro μ1 O1 H1 h1 s1 t1 hO st
  have q1 : SqL K H1 a (ns.map V.int) := (q.mono t1.keepM (t1.ownM (O := O))).sqL
  refine ⟨fun i x e => ?_, fun i hi => ⟨_, q1, by simpa using hi⟩⟩
  rw [List.getElem?_map] at e
  obtain ⟨m, e1, rfl⟩ := Option.map_eq_some_iff.mp e
  refine ⟨⟨_, .int m, q1, by rw [List.getElem?_map, e1]; rfl⟩, fun y H2 hy => ?_⟩
  obtain ⟨rfl, hy⟩ := hy
  have e2 := hy _ q1
  rw [List.getElem?_map, e1] at e2
  cases e2
  exact ⟨s1, Stp.refl, .int m⟩
theorem itOk_rng (lo hi : Int) : ItOk K O μ H none (rngL lo hi) (Itr lo (hi - lo).toNat) := by
  intro μ1 O1 H1 h1 s1 t1 hO st
  unfold rngL
  refine ⟨fun i x e => ?_, fun i hi => by rw [List.length_map, List.length_range] at hi; exact hi⟩
  rw [List.getElem?_map] at e
  obtain ⟨m, e1, rfl⟩ := Option.map_eq_some_iff.mp e
  obtain ⟨hi', e2⟩ := List.getElem?_eq_some_iff.mp e1
  rw [List.getElem_range] at e2
  subst e2
  refine ⟨by rw [List.length_range] at hi'; exact hi', fun y H2 hy => ?_⟩
  obtain ⟨rfl, rfl⟩ := hy
  exact ⟨s1, Stp.refl, .int _⟩
theorem itOk_str {x : List Nat} (o : okS x = true) : ItOk K O μ H none (x.map fun c => .str [c]) (Its (strOf x)) := by
  intro μ1 O1 H1 h1 s1 t1 hO st
  refine ⟨fun i y e => ?_, fun i hi => by simpa [Its, strOf] using hi⟩
  rw [List.getElem?_map] at e
  obtain ⟨c, e1, rfl⟩ := Option.map_eq_some_iff.mp e
  obtain ⟨hi', e2⟩ := List.getElem?_eq_some_iff.mp e1
  refine ⟨by simpa [Its, strOf] using hi', fun y H2 hy => ?_⟩
  obtain ⟨rfl, d, h1, rfl⟩ := hy
  have h2 : x[i]? = some d := by simpa [strOf] using h1
  rw [e1] at h2; cases h2
  exact ⟨s1, Stp.refl, .str [c] (okS_sub o (fun z hz => by
    have : z = c := by simpa using hz
    subst this
    exact List.mem_of_getElem? e1) (by simp))⟩
theorem enm_get : ∀ (k : Nat) (xs : List PV) (i : Nat) {x : PV}, (enmL k xs)[i]? = some x → ∃ y, xs[i]? = some y ∧ x = .tup [.int ((k + i : Nat) : Int), y]
  | _, [], _, _, e => by simp [enmL] at e
  | k, y :: ys, 0, x, e => by simp [enmL] at e; exact ⟨y, rfl, by rw [← e]; rfl⟩
  | k, y :: ys, i + 1, x, e => by
    simp [enmL] at e
    obtain ⟨z, h1, h2⟩ := enm_get (k + 1) ys i e
    exact ⟨z, by simpa using h1, by rw [h2, Nat.add_right_comm, Nat.add_assoc]⟩
theorem enm_len : ∀ (k : Nat) (xs : List PV), (enmL k xs).length = xs.length
  | _, [] => rfl
  | k, _ :: ys => by rw [enmL, List.length_cons, List.length_cons, enm_len]
theorem itOk_enm {a : Addr} {vs : List V} {xs : List PV} (q : H a = some (.lst vs)) (n : ¬ μ.own O a) (r : RPs K H (μ.own O) xs vs) : ItOk K O μ H none (enmL 0 xs) (Ite K a) := by
  intro μ1 O1 H1 h1 s1 t1 hO st
  have q1 : SqL K H1 a vs := sqL_keep t1 n q
  refine ⟨fun i x e => ?_, fun i hi => ⟨vs, q1, by rw [r.length, ← enm_len 0 xs]; exact hi⟩⟩
  obtain ⟨z, e0, rfl⟩ := enm_get 0 xs i e
  obtain ⟨v, e1, r1⟩ := r.get e0
  refine ⟨⟨vs, v, q1, e1⟩, fun y H2 hy => ?_⟩
  obtain ⟨T, v', rfl, hT, rfl, hy⟩ := hy
  have e2 := hy vs q1
  rw [e1] at e2; cases e2
  refine ⟨s1.new hT, Stp.new hT, RP.newT s1 hT (.cons ?_ (.cons (r1.stepO t1 hO) .nil))⟩
  rw [Nat.zero_add]
  exact .int _
theorem zip_get : ∀ (xs ys : List PV) (i : Nat) {x : PV}, (zip2 xs ys)[i]? = some x → ∃ y z, xs[i]? = some y ∧ ys[i]? = some z ∧ x = .tup [y, z]
  | [], _, _, _, e => by simp [zip2] at e
  | _ :: _, [], _, _, e => by simp [zip2] at e
  | y :: xs, z :: ys, 0, x, e => by simp [zip2] at e; exact ⟨y, z, rfl, rfl, e.symm⟩
  | y :: xs, z :: ys, i + 1, x, e => by
    simp [zip2] at e
    obtain ⟨p, q, h1, h2, h3⟩ := zip_get xs ys i e
    exact ⟨p, q, by simpa using h1, by simpa using h2, h3⟩
theorem zip_len : ∀ (xs ys : List PV), (zip2 xs ys).length = min xs.length ys.length
  | [], _ => by simp [zip2]
  | _ :: _, [] => by simp [zip2]
  | y :: xs, z :: ys => by rw [zip2, List.length_cons, List.length_cons, List.length_cons, zip_len]; omega
theorem itOk_zip {a b : Addr} {vs ws : List V} {xs ys : List PV} (q : H a = some (.lst vs)) (n : ¬ μ.own O a) (r : RPs K H (μ.own O) xs vs) (q' : H b = some (.lst ws)) (n' : ¬ μ.own O b) (r' : RPs K H (μ.own O) ys ws) : ItOk K O μ H none (zip2 xs ys) (Itz K a b) := by
  intro μ1 O1 H1 h1 s1 t1 hO st
  have q1 : SqL K H1 a vs := sqL_keep t1 n q
  have q2 : SqL K H1 b ws := sqL_keep t1 n' q'
  refine ⟨fun i x e => ?_, fun i hi => ⟨vs, ws, q1, q2, by rw [zip_len] at hi; rw [r.length, r'.length]; omega⟩⟩
  obtain ⟨z1, z2, e0, e0', rfl⟩ := zip_get xs ys i e
  obtain ⟨v, e1, r1⟩ := r.get e0
  obtain ⟨v', e1', r1'⟩ := r'.get e0'
  refine ⟨⟨vs, ws, v, v', q1, q2, e1, e1'⟩, fun y H2 hy => ?_⟩
  obtain ⟨T, w1, w2, rfl, hT, rfl, hy, hy'⟩ := hy
  have e2 := hy vs q1
  have e2' := hy' ws q2
  rw [e1] at e2; cases e2
  rw [e1'] at e2'; cases e2'
  exact ⟨s1.new hT, Stp.new hT, RP.newT s1 hT (.cons (r1.stepO t1 hO) (.cons (r1'.stepO t1 hO) .nil))⟩
theorem itOk_zipT {a b : Addr} {vs ws : List V} {xs ys : List PV} (n : TupAt K H (μ.own O) a vs) (r : RPs K H (μ.own O) xs vs) (n' : TupAt K H (μ.own O) b ws) (r' : RPs K H (μ.own O) ys ws) : ItOk K O μ H none (zip2 xs ys) (RZ.ItzT K a b) := by
  intro μ1 O1 H1 h1 s1 t1 hO st
  have q1 : SqT K H1 a vs := (n.mono t1.keepM (t1.ownM (O := O))).sqT
  have q2 : SqT K H1 b ws := (n'.mono t1.keepM (t1.ownM (O := O))).sqT
  refine ⟨fun i x e => ?_, fun i hi => ⟨vs, ws, q1, q2, by rw [zip_len] at hi; rw [r.length, r'.length]; omega⟩⟩
  obtain ⟨z1, z2, e0, e0', rfl⟩ := zip_get xs ys i e
  obtain ⟨v, e1, r1⟩ := r.get e0
  obtain ⟨v', e1', r1'⟩ := r'.get e0'
  refine ⟨⟨vs, ws, v, v', q1, q2, e1, e1'⟩, fun y H2 hy => ?_⟩
  obtain ⟨T, w1, w2, rfl, hT, rfl, hy, hy'⟩ := hy
  have e2 := hy vs q1
  have e2' := hy' ws q2
  rw [e1] at e2; cases e2
  rw [e1'] at e2'; cases e2'
  exact ⟨s1.new hT, Stp.new hT, RP.newT s1 hT (.cons (r1.stepO t1 hO) (.cons (r1'.stepO t1 hO) .nil))⟩
end
end Br

namespace Br
open PySem PySem.Spec PyProof.Rows L2
section
variable {X : Cx} {G : Nat → Option PV} {k : Ask} {T : Tab} {C : CXT} {sc : Scope}
theorem si_val {tg e : Expr} {c : CE} (he : SE X G k e c) : SI X G k tg e (.val c) := by
  intro μ O H h σ ρ src xs h' R s r ev q
  unfold evI at ev
  obtain ⟨v, h1, e1, ev⟩ := bind_ok ev
  refine tIS.val ?_
  refine he μ O H h σ ρ v h1 _ s r e1 fun x μ1 H1 s1 t1 r1 => ?_
  cases hi : items h1 v with
  | none => rw [hi] at ev; cases ev
  | some ys =>
    rw [hi] at ev
    cases ev
    cases r1 with
    | p r1 =>
      cases r1 with
      | tup na ta => cases hi; exact it_tup na.sqT (q _ μ1 H1 s1 t1 (itOk_tup na ta))
      | lst qa na ta => cases hi; exact it_list (.of qa) (q _ μ1 H1 s1 t1 (itOk_lst qa na ta))
      | str z o => cases hi; exact it_str (q _ μ1 H1 s1 t1 (itOk_str o))
      | non => cases hi
      | bl _ => cases hi
      | int _ => cases hi
    | t => cases hi
    | r hn hx =>
      unfold items at hi
      simp only at hi
      split at hi
      · rename_i zs hz
        cases hi
        obtain ⟨a, vs, f1, f2, f4⟩ := s1.cell _ _ hz
        rw [hx a f1]
        exact it_list (.of f2) (q _ μ1 H1 s1 t1 (itOk_cell s1 f1 hz))
      · cases hi
    | g hq hn hb => cases hi; exact it_rng hq hb (q _ μ1 H1 s1 t1 (itOk_rng _ _))
    | s hq => cases hi; exact it_list hq.sqL (q _ μ1 H1 s1 t1 (itOk_script hq))
theorem rp_int {K : PySem.W.Frag} {H : Hp} {M : Addr → Prop} {i : Int} {x : V} (r : RP K H M (.int i) x) : x = .int i := by cases r; rfl
theorem pursOf_len : ∀ {vs : List VV} {ps : List PV}, pursOf vs = some ps → ps.length = vs.length
  | [], _, e => by cases e; rfl
  | v :: vs, _, e => by
    unfold pursOf at e
    obtain ⟨a, e1, e⟩ := Option.bind_eq_some_iff.mp e
    obtain ⟨b, e2, rfl⟩ := Option.map_eq_some_iff.mp e
    rw [List.length_cons, List.length_cons, pursOf_len e2]
theorem si_rng {tg : Expr} {es : List Expr} {cs : List CE} {x : Str} {p pos : Pos} (hx : x = ("range" : Str)) (hX : SX T G k C X sc) (hg : isG sc x = true) (hn : ∀ e' ∈ es, noStar e' = true) (hl : es.length = 1 ∨ es.length = 2) (hlen : cs.length = es.length) (h1 : SEs X G k es cs) :
    SI X G k tg (.Call (.Name x p) es [] pos) (.rng cs) := by
  subst hx
  intro μ O H h σ ρ src xs h' R s r ev q
  unfold evI at ev
  obtain ⟨vs, h2, e1, ev⟩ := bind_ok ev
  cases hr : (pursOf vs).bind rangeOf with
  | none => rw [hr] at ev; cases ev
  | some lh =>
    obtain ⟨lo, hi⟩ := lh
    rw [hr] at ev
    cases ev
    obtain ⟨ps, hp, hr⟩ := Option.bind_eq_some_iff.mp hr
    have hm : X.mg ("range" : Str) = none := hX.bi _ (by decide +kernel)
    have bd := rngOf_bd hr
    match es, hl with
    | [a], _ =>
      have na : noStar a = true := hn a List.mem_cons_self
      refine tIS.of (pi_range1 (hX.gl hg) hm pa_S (star_cons na)) ?_
      refine h1 μ O H h σ ρ vs h' _ s r e1 fun ws μ1 H1 s1 t1 r1 => ?_
      have rp := pursOf_rp r1 hp
      rcases bd with ⟨rfl, rfl, b1, b2⟩ | ⟨rfl, _⟩
      · cases rp with
        | cons r2 t =>
          cases t
          cases r2
          refine ⟨hi, rfl, b1, b2, ?_⟩
          have := q _ μ1 H1 s1 t1 (itOk_rng 0 hi)
          simpa using this
      · have z := evEs_len e1
        have z3 := pursOf_len hp
        simp at z3 hlen
        omega
    | [a, b], _ =>
      have na : noStar a = true := hn a List.mem_cons_self
      have nb : noStar b = true := hn b (by simp)
      refine tIS.of (pi_range2 (hX.gl hg) hm pa_S (by rw [star_cons na, star_cons nb]; rfl) (star_cons nb)) ?_
      refine h1 μ O H h σ ρ vs h' _ s r e1 fun ws μ1 H1 s1 t1 r1 => ?_
      have rp := pursOf_rp r1 hp
      rcases bd with ⟨rfl, rfl, b1, b2⟩ | ⟨rfl, b1, b2⟩
      · have z := evEs_len e1
        have z3 := pursOf_len hp
        simp at z3 hlen
        omega
      · cases rp with
        | cons r2 t =>
          cases t with
          | cons r3 t =>
            cases t
            cases r2
            cases r3
            exact ⟨lo, hi, rfl, ⟨b1.1, b1.2, b2.1, b2.2⟩, q _ μ1 H1 s1 t1 (itOk_rng lo hi)⟩
theorem si_zip {a b : Expr} {ca cb : CE} {ts : List Expr} {kk : Nat} {tpos p pos : Pos} (hX : SX T G k C X sc) (hg : isG sc ("zip" : Str) = true) (na : noStar a = true) (nb : noStar b = true) (ha : SE X G k a ca) (hb : SE X G k b cb) :
    SI X G k (.Tuple ts kk tpos) (.Call (.Name ("zip" : Str) p) [a, b] [] pos) (.zip ca cb) := by
  intro μ O H h σ ρ src xs h' R s r ev q
  unfold evI at ev
  obtain ⟨v, h1, e1, ev⟩ := bind_ok ev
  obtain ⟨w, h2, e2, ev⟩ := bind_ok ev
  cases hz : zipP v w with
  | none => rw [hz] at ev; cases ev
  | some ys =>
    rw [hz] at ev
    cases ev
    have hm : X.mg ("zip" : Str) = none := hX.bi _ (by decide +kernel)
    refine tIS.of (RZ.pi_zipA (hX.gl hg) hm (pa_two na nb pe_S pe_S) (star_cons na) (star_any fun e' he => by
      have z : e' = b := by simpa using he
      rw [z]; exact nb)) ?_
    refine ha μ O H h σ ρ v h1 _ s r e1 fun x1 μ1 H1 s1 t1 r1 => ?_
    refine hb μ1 O H1 h1 σ ρ w h' _ s1 (r.step t1) e2 fun x2 μ2 H2 s2 t2 r2 => ?_
    have r1' := r1.step t2
    unfold zipP at hz
    split at hz
    · cases hz
      cases r1' with | p r3 => cases r2 with | p r4 =>
      cases r3 with | tup n3 t3 => cases r4 with | tup n4 t4 =>
      exact ⟨_, _, _, _, rfl, .inr ⟨n3.sqT, n4.sqT, q _ μ2 H2 s2 (t1.trans t2) (itOk_zipT n3 t3 n4 t4)⟩⟩
    · cases hz
      cases r1' with | p r3 => cases r2 with | p r4 =>
      cases r3 with | lst qa n3 t3 => cases r4 with | lst qb n4 t4 =>
      exact ⟨_, _, _, _, rfl, .inl ⟨.of qa, .of qb, q _ μ2 H2 s2 (t1.trans t2) (itOk_zip qa n3 t3 qb n4 t4)⟩⟩
    · cases hz
theorem si_enm {a : Expr} {ca : CE} {ts : List Expr} {kk : Nat} {tpos p pos : Pos} (hX : SX T G k C X sc) (hg : isG sc ("enumerate" : Str) = true) (na : noStar a = true) (ha : SE X G k a ca) :
    SI X G k (.Tuple ts kk tpos) (.Call (.Name ("enumerate" : Str) p) [a] [] pos) (.enm ca) := by
  intro μ O H h σ ρ src xs h' R s r ev q
  unfold evI at ev
  obtain ⟨v, h1, e1, ev⟩ := bind_ok ev
  cases hz : enmP v with
  | none => rw [hz] at ev; cases ev
  | some ys =>
    rw [hz] at ev
    cases ev
    have hm : X.mg ("enumerate" : Str) = none := hX.bi _ (by decide +kernel)
    refine tIS.of (pi_enum (hX.gl hg) hm (pa_cons pe_S pa_nil (star_cons na)) (star_cons na)) ?_
    refine ha μ O H h σ ρ v h' _ s r e1 fun x1 μ1 H1 s1 t1 r1 => ?_
    unfold enmP at hz
    split at hz
    · cases hz
      cases r1 with | p r3 => cases r3 with | lst qa n3 t3 =>
      exact ⟨_, _, rfl, .of qa, q _ μ1 H1 s1 t1 (itOk_enm qa n3 t3)⟩
    · cases hz
theorem cr_range1 : CallR X (.type "range") (fun vs H Q => ∃ j, vs = [V.int j] ∧ ∀ p, H p = none → Q (.ref p) (upd H p (.rng 0 j))) := by
  intro pins s σ H vs us Q I r h
  obtain ⟨j, rfl, q⟩ := h
  obtain ⟨u1, rfl, ri⟩ := vals1 r
  obtain ⟨t, rfl⟩ := ri
  refine call_range_1 ⟨.ref s.heap.objs.size, upd H s.heap.objs.size (.rng 0 j), I.laid (t' := s.toks + 1 + 1) (fun b o e => Heap.get?_push_of_some _ e) (Nat.le_refl _) ?_, rfl, q _ (I.hok.fresh (Nat.le_refl _))⟩
  exact ⟨s.toks, t, s.toks + 1, Heap.get?_push_size _ rfl⟩
theorem boot_rng : bootBuiltins ("range" : Str) = some (.type "range") := by kernel_rfl
theorem se_rng {es : List Expr} {cs : List CE} {x : Str} {p pos : Pos} (hx : x = ("range" : Str)) (hX : SX T G k C X sc) (hg : isG sc x = true) (hn : ∀ e' ∈ es, noStar e' = true) (hl : es ≠ []) (hlen : cs.length = es.length) (h1 : SEs X G k es cs) :
    SE X G k (.Call (.Name x p) es [] pos) (.rng cs) := by
  subst hx
  intro μ O H h σ ρ v h' Q s r ev q
  unfold evE at ev
  obtain ⟨vs, h2, e1, ev⟩ := bind_ok ev
  cases hr : (pursOf vs).bind rangeOf with
  | none => rw [hr] at ev; cases ev
  | some lh =>
    obtain ⟨lo, hi⟩ := lh
    rw [hr] at ev
    cases ev
    obtain ⟨ps, hp, hr⟩ := Option.bind_eq_some_iff.mp hr
    have hm : X.mg ("range" : Str) = none := hX.bi _ (by decide +kernel)
    have bd := rngOf_bd hr
    cases es with
    | nil => exact absurd rfl hl
    | cons a es =>
      refine tS.of (pe_callTy call_S (hX.gl hg) hm boot_rng pa_S (by decide +kernel) (isG_of hg).2 (star_cons (hn a List.mem_cons_self)) (star_any fun e' he => hn e' (List.mem_cons_of_mem _ he))) ?_
      refine h1 μ O H h σ ρ vs h' _ s r e1 fun ws μ1 H1 s1 t1 r1 => ?_
      have rp := pursOf_rp r1 hp
      rcases bd with ⟨rfl, rfl, b1, b2⟩ | ⟨rfl, b1, b2⟩
      · cases rp with
        | cons r2 t =>
          cases t
          cases r2
          exact cS.of cr_range1 ⟨_, rfl, fun p hp => q _ μ1 _ (s1.new hp) (t1.trans (Stp.new hp)) (.g upd_same (s1.not_own_none hp) ⟨⟨by omega, by omega⟩, b1, b2⟩)⟩
      · cases rp with
        | cons r2 t =>
          cases t with
          | cons r3 t =>
            cases t
            cases r2
            cases r3
            exact cS.of cr_range2 ⟨_, _, rfl, fun p hp => q _ μ1 _ (s1.new hp) (t1.trans (Stp.new hp)) (.g upd_same (s1.not_own_none hp) ⟨b1, b2⟩)⟩

/-! ### targets -/
def SGt (X : Cx) (tg : Expr) (cg : CG) : Prop := ∀ (μ : Mu) (O : Addr → Prop) (H : Hp) (σ : L2.St) (ρ ρ' : Env) (x : PV) (v : V) (Q : L2.St → Hp → Prop), RE X.K μ O H ρ σ → putG cg x ρ = some ρ' → RP X.K H (μ.own O) x v →
  (∀ σ', RE X.K μ O H ρ' σ' → (∀ vs, (∀ i ∈ cg.slots, i ∈ vs) → L2.wipe σ' vs = L2.wipe σ vs) → Q σ' H) → gS X tg v σ H Q
def SGts (X : Cx) (tgs : List Expr) (cgs : List CG) : Prop := ∀ (μ : Mu) (O : Addr → Prop) (H : Hp) (σ : L2.St) (ρ ρ' : Env) (xs : List PV) (vs : List V) (Q : L2.St → Hp → Prop), RE X.K μ O H ρ σ → putGs cgs xs ρ = some ρ' → RPs X.K H (μ.own O) xs vs →
  (∀ σ', RE X.K μ O H ρ' σ' → (∀ ws, (∀ i ∈ CG.slotsL cgs, i ∈ ws) → L2.wipe σ' ws = L2.wipe σ ws) → Q σ' H) → gsS X tgs vs σ H Q
theorem wipe_set {x : Option V} {i : Nat} : ∀ {vs : List Nat} {σ : L2.St}, i ∈ vs → L2.wipe (σ.set i x) vs = L2.wipe σ vs
  | [], _, h => by cases h
  | j :: vs, σ, h => by
    show (L2.wipe (σ.set i x) vs).set j none = (L2.wipe σ vs).set j none
    by_cases hj : i ∈ vs
    · rw [wipe_set hj]
    · have e : i = j := by
        rcases List.mem_cons.mp h with h | h
        · exact h
        · exact absurd h hj
      subst e
      have comm : ∀ (vs : List Nat) (σ : L2.St), i ∉ vs → L2.wipe (σ.set i x) vs = (L2.wipe σ vs).set i x := by
        intro vs
        induction vs with
        | nil => intro σ _; rfl
        | cons m vs ih =>
          intro σ hm
          show (L2.wipe (σ.set i x) vs).set m none = ((L2.wipe σ vs).set m none).set i x
          rw [ih σ fun z => hm (List.mem_cons_of_mem _ z), List.set_comm _ _ fun z => hm (by rw [z]; exact List.mem_cons_self)]
      rw [comm vs σ hj, List.set_set]
theorem wipe_idem : ∀ (vs : List Nat) (σ : L2.St), L2.wipe (L2.wipe σ vs) vs = L2.wipe σ vs := by
  have sub : ∀ (ws vs : List Nat) (σ : L2.St), (∀ i ∈ ws, i ∈ vs) → L2.wipe (L2.wipe σ ws) vs = L2.wipe σ vs := by
    intro ws
    induction ws with
    | nil => intro vs σ _; rfl
    | cons i ws ih =>
      intro vs σ h
      show L2.wipe ((L2.wipe σ ws).set i none) vs = _
      rw [wipe_set (h i List.mem_cons_self)]
      exact ih vs σ fun j hj => h j (List.mem_cons_of_mem _ hj)
  exact fun vs σ => sub vs vs σ fun _ h => h
theorem sgt_nm {i : Nat} {x : Str} {pos : Pos} (hX : SX T G k C X sc) (hN : X.N[i]? = some x) (hl : sc.names.lookup x = some .local ∨ sc.names.lookup x = some .cell) : SGt X (.Name x pos) (.nm i) := by
  intro μ O H σ ρ ρ' p v Q r e rp q
  unfold putG at e
  split at e
  · cases e
    have hl' : Loc X.env.scope x := hl.elim (fun z => .inl (hX.kind x _ z (by decide))) fun z => .inr (hX.kind x _ z (by decide))
    refine gS.of (pg_name hX.nd hN hl' ?_) (q _ (r.set (.p rp) i) fun vs h => wipe_set (h i (by simp [CG.slots])))
    rcases hl with z | z
    · exact .inr (hX.kind x _ z (by decide))
    · exact .inl (hX.fnc x z)
  · cases e
theorem sgts_nil : SGts X [] [] := by
  intro μ O H σ ρ ρ' xs vs Q r e rp q
  cases xs with
  | nil =>
    cases rp
    unfold putGs at e
    cases e
    exact gsS.of pgs_nil ⟨rfl, q σ r fun _ _ => rfl⟩
  | cons x xs => unfold putGs at e; cases e
theorem each_cons {e : Expr} {es : List Expr} {env : PySem.Env} (h : noStar e = true) : assignEach (e :: es) env = (false, assign e env) :: assignEach es env := by
  cases e <;> first | rfl | cases h
theorem sgts_cons {e : Expr} {es : List Expr} {c : CG} {cs : List CG} (hn : noStar e = true) (h1 : SGt X e c) (h2 : SGts X es cs) : SGts X (e :: es) (c :: cs) := by
  intro μ O H σ ρ ρ' xs vs Q r ev rp q
  cases rp with
  | nil => unfold putGs at ev; cases ev
  | cons r1 rs =>
    unfold putGs at ev
    obtain ⟨ρ1, e1, e2⟩ := Option.bind_eq_some_iff.mp ev
    refine gsS.of (pgs_cons pg_S pgs_S (by rw [each_cons hn]; rfl)) ⟨_, _, rfl, ?_⟩
    refine h1 μ O H σ ρ ρ1 _ _ _ r e1 r1 fun σ1 q1 w1 => ?_
    refine h2 μ O H σ1 ρ1 ρ' _ _ _ q1 e2 rs fun σ2 q2 w2 => q σ2 q2 fun ws hw => ?_
    rw [w2 ws fun i hi => hw i (by simp [CG.slotsL, hi]), w1 ws fun i hi => hw i (by simp [CG.slotsL, hi])]
theorem each_len {env : PySem.Env} : ∀ {es : List Expr}, (assignEach es env).length = es.length
  | [] => rfl
  | e :: es => by cases e <;> simp [assignEach, each_len (es := es)]
theorem each_nostar {env : PySem.Env} : ∀ {es : List Expr}, (∀ e ∈ es, noStar e = true) → (assignEach es env).findIdx? (·.1) = none
  | [], _ => rfl
  | e :: es, h => by
    rw [each_cons (h e List.mem_cons_self)]
    have := each_nostar (env := env) (es := es) fun e he => h e (List.mem_cons_of_mem _ he)
    rw [List.findIdx?_cons, this]; rfl
theorem putGs_len : ∀ {cs : List CG} {xs : List PV} {ρ ρ' : Env}, putGs cs xs ρ = some ρ' → xs.length = cs.length
  | [], [], _, _, _ => rfl
  | [], _ :: _, _, _, e => by unfold putGs at e; cases e
  | _ :: _, [], _, _, e => by unfold putGs at e; cases e
  | c :: cs, x :: xs, _, _, e => by
    unfold putGs at e
    obtain ⟨ρ1, e1, e2⟩ := Option.bind_eq_some_iff.mp e
    rw [List.length_cons, List.length_cons, putGs_len e2]
theorem sgt_tp {es : List Expr} {cs : List CG} {kk : Nat} {pos : Pos} (hX : SX T G k C X sc) (hn : ∀ e ∈ es, noStar e = true) (hlen : cs.length = es.length) (h2 : SGts X es cs) : SGt X (.Tuple es kk pos) (.tp cs) := by
  intro μ O H σ ρ ρ' p v Q r e rp q
  cases rp with
  | tup na ta =>
    unfold putG at e
    refine gS.of (pg_tup hX.calm pgs_S each_len (each_nostar hn)) ⟨_, _, rfl, na.sqT, by rw [ta.length, putGs_len e, hlen], ?_⟩
    exact h2 μ O H σ ρ ρ' _ _ _ r e ta fun σ' q1 w => q σ' q1 fun vs hv => w vs fun i hi => hv i (by simpa [CG.slots] using hi)
  | lst qa na ta =>
    unfold putG at e
    refine gS.of (pg_lst hX.calm pgs_S each_len (each_nostar hn)) ⟨_, _, rfl, .of qa, by rw [ta.length, putGs_len e, hlen], ?_⟩
    exact h2 μ O H σ ρ ρ' _ _ _ r e ta fun σ' q1 w => q σ' q1 fun vs hv => w vs fun i hi => hv i (by simpa [CG.slots] using hi)
  | non => unfold putG at e; cases e
  | bl _ => unfold putG at e; cases e
  | int _ => unfold putG at e; cases e
  | str _ _ => unfold putG at e; cases e
theorem slot_of {N : List Str} {x : Str} {i : Nat} (h : slotOf N x = some i) : N[i]? = some x := by
  unfold slotOf at h
  obtain ⟨h1, h2, _⟩ := List.findIdx?_eq_some_iff_getElem.mp h
  rw [List.getElem?_eq_getElem h1]
  have : N[i] = x := by simpa using h2
  rw [this]
mutual
theorem sg_ok (hX : SX T G k C X sc) : ∀ (n : Nat) {e : Expr} {c : CG}, sG X.N n sc e = some c → SGt X e c ∧ noStar e = true
  | 0, _, _, h => by unfold sG at h; cases h
  | n + 1, e, c, h => by
    unfold sG at h
    split at h
    · split at h
      · rename_i hl
        obtain ⟨i, h1, rfl⟩ := Option.map_eq_some_iff.mp h
        refine ⟨sgt_nm hX (slot_of h1) ?_, rfl⟩
        simpa using hl
      · cases h
    · obtain ⟨cs, h1, rfl⟩ := Option.map_eq_some_iff.mp h
      obtain ⟨h2, h3, h4⟩ := sgs_ok hX n h1
      exact ⟨sgt_tp hX h3 h4 h2, rfl⟩
    · cases h
theorem sgs_ok (hX : SX T G k C X sc) : ∀ (n : Nat) {es : List Expr} {cs : List CG}, sG.sGs X.N n sc es = some cs → SGts X es cs ∧ (∀ e ∈ es, noStar e = true) ∧ cs.length = es.length
  | 0, _, _, h => by unfold sG.sGs at h; cases h
  | n + 1, [], cs, h => by
    unfold sG.sGs at h; cases h
    exact ⟨sgts_nil, (fun e he => by cases he), rfl⟩
  | n + 1, e :: es, cs, h => by
    unfold sG.sGs at h
    obtain ⟨c, h1, h⟩ := Option.bind_eq_some_iff.mp h
    obtain ⟨cs', h2, rfl⟩ := Option.map_eq_some_iff.mp h
    obtain ⟨a1, a2⟩ := sg_ok hX n h1
    obtain ⟨b1, b2, b3⟩ := sgs_ok hX n h2
    exact ⟨sgts_cons a2 a1 b1, fun e' he => (List.mem_cons.mp he).elim (fun z => by rw [z]; exact a2) (b2 e'), by rw [List.length_cons, List.length_cons, b3]⟩
end
end
end Br

set_option autoImplicit false
set_option linter.all false
set_option maxRecDepth 100000
namespace Br
open PySem PySem.Spec PyProof.Rows L2

/-- one more list that no datum holds -/
def withO (O : Addr → Prop) (D : Addr) : Addr → Prop := fun a => O a ∨ a = D
def erase (H : Hp) (D : Addr) : Hp := fun b => if b = D then none else H b
theorem erase_upd {H : Hp} {D : Addr} {o : HO} (e : H D = some o) : upd (erase H D) D o = H := by
  funext b
  unfold upd erase
  by_cases hb : b = D
  · rw [if_pos hb, hb]; exact e.symm
  · rw [if_neg hb, if_neg hb]
section
variable {K : PySem.W.Frag} {μ μ' : Mu} {O : Addr → Prop} {H H' : Hp} {h : CH} {D : Addr}
theorem own_with {a : Addr} : μ.own (withO O D) a ↔ μ.own O a ∨ a = D := by
  constructor
  · rintro ((z | z) | z)
    · exact .inl (.inl z)
    · exact .inr z
    · exact .inl (.inr z)
  · rintro ((z | z) | z)
    · exact .inl (.inl z)
    · exact .inr z
    · exact .inl (.inr z)
/-- the new list is begun -/
theorem SR.begin (s : SR K μ O H h) (hD : H D = none) {vs : List V} : SR K μ (withO O D) (upd H D (.lst vs)) h := by
  have s' := s.new (o := .lst vs) hD
  have hO : ∀ a, withO O D a → O a ∨ H a = none := fun a z => z.elim .inl fun e => .inr (by rw [e]; exact hD)
  refine ⟨s.len, s.dom, s.inj, fun n a e o => ?_, fun a o => ?_, fun n xs e => ?_, s.live⟩
  · rcases o with o | rfl
    · exact s.dis n a e o
    · obtain ⟨ws, q⟩ := s.own_lst (.inr ⟨n, e⟩)
      rw [hD] at q; cases q
  · rcases o with o | rfl
    · exact s'.nkO a o
    · exact ⟨vs, upd_same⟩
  · obtain ⟨a, ws, e1, e2, r⟩ := s.cell n xs e
    exact ⟨a, ws, e1, by rw [upd_ne (ne_of_none e2 hD)]; exact e2, r.stepO (Stp.new hD) hO⟩
/-- the list grows -/
theorem SR.grow (s : SR K μ (withO O D) H h) {vs : List V} : SR K μ (withO O D) (upd H D (.lst vs)) h := by
  have hk : ∀ a o, H a = some o → ¬ μ.own (withO O D) a → upd H D (.lst vs) a = some o := fun a o e n => by
    rw [upd_ne fun z => n (own_with.mpr (.inr z))]; exact e
  refine ⟨s.len, s.dom, s.inj, s.dis, fun a o => ?_, fun n xs e => ?_, s.live⟩
  · obtain ⟨ws, e⟩ := s.nkO a o
    by_cases ha : a = D
    · rw [ha]; exact ⟨vs, upd_same⟩
    · exact ⟨ws, by rw [upd_ne ha]; exact e⟩
  · obtain ⟨a, ws, e1, e2, r⟩ := s.cell n xs e
    refine ⟨a, ws, e1, ?_, r.mono hk fun a z => .inl z⟩
    rw [upd_ne fun z => s.dis n a e1 (.inr z)]; exact e2
theorem RPs.grow {xs : List PV} {ws vs : List V} (r : RPs K H (μ.own (withO O D)) xs ws) : RPs K (upd H D (.lst vs)) (μ.own (withO O D)) xs ws :=
  r.mono (fun a o e n => by rw [upd_ne fun z => n (own_with.mpr (.inr z))]; exact e) fun a z => .inl z
theorem Stp.grow {H0 : Hp} {μ0 : Mu} (t : Stp K μ0 H0 μ H) (hD : H0 D = none) {vs : List V} : Stp K μ0 H0 μ (upd H D (.lst vs)) where
  keep := fun a o e n => by rw [upd_ne (ne_of_none e hD)]; exact t.keep a o e n
  nw := t.nw
  trk := fun a e => by
    unfold upd
    split
    · simp
    · exact t.trk a e
  le := t.le
/-- the list is finished -/
theorem SR.finish (s : SR K μ (withO O D) H h) (hOD : ¬ O D) : SR K μ O (erase H D) h := by
  have hk : ∀ a o, H a = some o → ¬ μ.own (withO O D) a → erase H D a = some o := fun a o e n => by
    unfold erase
    rw [if_neg fun z => n (own_with.mpr (.inr z))]; exact e
  have hne : ∀ n a, μ.fn n = some a → a ≠ D := fun n a e z => s.dis n a e (.inr z)
  refine ⟨s.len, s.dom, s.inj, fun n a e o => s.dis n a e (.inl o), fun a o => ?_, fun n xs e => ?_, s.live⟩
  · obtain ⟨ws, e⟩ := s.nkO a (.inl o)
    refine ⟨ws, ?_⟩
    unfold erase
    rw [if_neg fun z => hOD (by rw [← z]; exact o)]; exact e
  · obtain ⟨a, ws, e1, e2, r⟩ := s.cell n xs e
    refine ⟨a, ws, e1, ?_, r.mono hk fun a z => .inl (own_with.mpr (.inl z))⟩
    unfold erase
    rw [if_neg (hne n a e1)]; exact e2
theorem RPs.finish {xs : List PV} {ws : List V} (r : RPs K H (μ.own (withO O D)) xs ws) : RPs K (erase H D) (μ.own O) xs ws :=
  r.mono (fun a o e n => by
    unfold erase
    rw [if_neg fun z => n (own_with.mpr (.inr z))]; exact e) fun a z => .inl (own_with.mpr (.inl z))
theorem Stp.finish {H0 : Hp} {μ0 : Mu} (t : Stp K μ0 H0 μ H) (hD : H0 D = none) : Stp K μ0 H0 μ (erase H D) where
  keep := fun a o e n => by
    unfold erase
    rw [if_neg (ne_of_none e hD)]; exact t.keep a o e n
  nw := t.nw
  trk := fun a e => by
    unfold erase
    rw [if_neg fun z => e (by rw [z]; exact hD)]
    exact t.trk a e
  le := t.le
end

section
variable {X : Cx} {G : Nat → Option PV} {k : Ask} {T : Tab} {C : CXT} {sc : Scope}
def tPS (X : Cx) (ifs : List Expr) : TT := fun σ H Q => ∀ (pins : List (Addr × Obj)) (s : Shared), Inv X pins σ H s →
  wpAny (model X.prog X.w) X.A (forIn ifs true fun c r => if r = true then do let ok ← isTrue c X.env (eval c X.env); pure (ForInStep.yield ok) else pure (ForInStep.yield r)) (TP X pins σ Q) X.xe s
theorem pts_S {ifs : List Expr} : PTs X ifs (tPS X ifs) := ⟨fun pins s _ _ _ I h => h pins s I⟩
theorem tPS.of {ifs : List Expr} {t : TT} {σ : L2.St} {H : Hp} {Q : Bool → Hp → Prop} (h : PTs X ifs t) (q : t σ H Q) : tPS X ifs σ H Q := fun pins s I => h.run pins s σ H Q I q
/-- the test of a comprehension -/
def SP1 (X : Cx) (G : Nat → Option PV) (k : Ask) (ifs : List Expr) (c : Option CE) : Prop := ∀ (μ : Mu) (O : Addr → Prop) (H : Hp) (h : CH) (σ : L2.St) (ρ : Env) (b : Bool) (h' : CH) (Q : Bool → Hp → Prop), SR X.K μ O H h → RE X.K μ O H ρ σ → evT G k c ρ h = .ok b h' →
  (∀ μ' H', SR X.K μ' O H' h' → Stp X.K μ H μ' H' → Q b H') → tPS X ifs σ H Q
theorem sp_nil : SP1 X G k [] none := by
  intro μ O H h σ ρ b h' Q s r ev q
  unfold evT at ev
  cases ev
  exact tPS.of pts_nil (q μ H s Stp.refl)
theorem sp_one {e : Expr} {c : CE} (hb : SB X G k e c) : SP1 X G k [e] (some c) := by
  intro μ O H h σ ρ b h' Q s r ev q
  unfold evT at ev
  obtain ⟨v, h1, e1, ev⟩ := bind_ok ev
  have e2 : truth h1 v = some b ∧ h1 = h' := by
    cases z : truth h1 v with
    | none => rw [z] at ev; cases ev
    | some c => rw [z] at ev; cases ev; exact ⟨rfl, rfl⟩
  obtain ⟨e2, rfl⟩ := e2
  exact tPS.of (pts_one pt_S) (hb μ O H h σ ρ v b h1 Q s r e1 e2 q)
theorem wipe_len (ρ : Env) : ∀ vs : List Nat, (Br.wipe ρ vs).length = ρ.length
  | [] => rfl
  | v :: vs => by unfold Br.wipe; rw [List.length_set, wipe_len ρ vs]
/-- the block of a comprehension -/
abbrev Blk (X : Cx) (scope : Scope) (s : Shared) (H : Hp) (A : Addr) (cl : List (Str × Addr)) (fp : List Addr) : Cx := X.blk s H scope (compEnvC scope cl A X.env) fp
theorem SX.blk (hX : SX T G k C X sc) (scope : Scope) (s : Shared) (H : Hp) (A : Addr) (cl : List (Str × Addr)) (fp : List Addr) : SX T G k C (Blk X scope s H A cl fp) scope where
  nd := hX.nd
  calm := hX.calm
  gd := hX.gd
  un := hX.un
  kind := fun x kd h hk => lookup_relS_keep (sc := X.env.scope) hk h
  free := fun x h => by
    have key : ∀ (names : List (Str × NameKind)), names.lookup x = some .free →
        (names.map fun (n, k) => if (k == NameKind.free && X.env.scope.kind == .function && X.env.scope.names.lookup n == some .cell) then (n, NameKind.cell) else (n, k)).lookup x = some .free ∨
        (names.map fun (n, k) => if (k == NameKind.free && X.env.scope.kind == .function && X.env.scope.names.lookup n == some .cell) then (n, NameKind.cell) else (n, k)).lookup x = some .cell := by
      intro names
      induction names with
      | nil => intro h; cases h
      | cons p r ih =>
        obtain ⟨n, k0⟩ := p
        intro h
        rw [List.map_cons]
        rw [List.lookup_cons] at h
        cases hx : x == n with
        | true =>
          rw [hx] at h
          cases h
          by_cases hc : ((NameKind.free == NameKind.free) && X.env.scope.kind == .function && X.env.scope.names.lookup n == some .cell) = true
          · right
            show List.lookup x ((if ((NameKind.free == NameKind.free) && X.env.scope.kind == .function && X.env.scope.names.lookup n == some .cell) = true then (n, NameKind.cell) else (n, NameKind.free)) :: _) = _
            rw [if_pos hc, List.lookup_cons, hx]
          · left
            show List.lookup x ((if ((NameKind.free == NameKind.free) && X.env.scope.kind == .function && X.env.scope.names.lookup n == some .cell) = true then (n, NameKind.cell) else (n, NameKind.free)) :: _) = _
            rw [if_neg hc, List.lookup_cons, hx]
        | false =>
          rw [hx] at h
          have z := ih h
          have e : ∀ (q : Str × NameKind) (l : List (Str × NameKind)), q.1 = n → List.lookup x (q :: l) = List.lookup x l := fun q l e => by
            rw [List.lookup_cons, e, hx]
          have e2 : ((fun (p : Str × NameKind) => if (p.2 == NameKind.free && X.env.scope.kind == .function && X.env.scope.names.lookup p.1 == some .cell) then (p.1, NameKind.cell) else (p.1, p.2)) (n, k0)).1 = n := by
            simp only
            split <;> rfl
          rcases z with z | z
          · exact .inl ((e _ _ e2).trans z)
          · exact .inr ((e _ _ e2).trans z)
    exact key scope.names h
  fnc := fun x h => by
    show (scope.names.lookup x == some .cell) = true
    rw [h]; rfl
  glo := hX.glo
  fns := hX.fns
  bi := hX.bi
  px := hX.px
  po := PassesOwn.never
theorem SX.blkOk (hX : SX T G k C X sc) {scope : Scope} {own : List (Str × Nat)} (h : blkC X.N sc scope own = true) : BlkOk X.N X.env.scope scope own := by
  have z := blkOk_by h
  refine ⟨z.kind, z.uniq, z.ix, fun y hy e => ?_, z.own⟩
  rcases z.free y hy e with w | w
  · exact .inl (hX.kind _ _ w (by decide))
  · exact (hX.free _ w).symm
/-- a comprehension's reading -/
def tCmp (X : Cx) (scope : Scope) (own : List (Str × Nat)) (elt tg it : Expr) (ifs : List Expr) : TE :=
  tLc (tIS X tg it) (fun v σ H Q => ∀ s0 H0 A cl fp, gS (Blk X scope s0 H0 A cl fp) tg v σ H Q) (fun σ H Q => ∀ s0 H0 A cl fp, tPS (Blk X scope s0 H0 A cl fp) ifs σ H Q) (fun σ H Q => ∀ s0 H0 A cl fp, tS (Blk X scope s0 H0 A cl fp) elt σ H Q) (own.map (·.2))
theorem pe_cmp' {elt tg it : Expr} {ifs : List Expr} {scope : Scope} {own : List (Str × Nat)} {pos : Pos} (hX : SX T G k C X sc) (ok : BlkOk X.N X.env.scope scope own) (hs : ∀ x, foldedSetIterable it X.env x = pure x) : PE X (.ListComp elt [⟨tg, it, ifs, 0⟩] scope pos) (tCmp X scope own elt tg it ifs) :=
  pe_lc hX.calm hX.nd pi_S ok (fun s0 H0 A cl fp => ⟨fun pins st σ H v u Q I rr h => h s0 H0 A cl fp pins st u I rr⟩) (fun s0 H0 A cl fp => ⟨fun pins st σ H Q I h => h s0 H0 A cl fp pins st I⟩) (fun s0 H0 A cl fp => ⟨fun pins st σ H Q I h => h s0 H0 A cl fp pins st I⟩) hs
theorem ps_cmp' {i : Nat} {y : Str} {py : Pos} {elt tg it : Expr} {ifs : List Expr} {scope : Scope} {own : List (Str × Nat)} {pos spos : Pos} (hX : SX T G k C X sc) (hy : X.N[i]? = some y) (hyl : X.env.scope.names.lookup y = some .local)
    (hsw : swapsWith (.ListComp elt [⟨tg, it, ifs, 0⟩] scope pos) (some (.Name y py)) spos.line X.env = pure true) (ok : BlkOk X.N X.env.scope scope own) (hs : ∀ x, foldedSetIterable it X.env x = pure x) :
    PS X (.Assign [.Name y py] (.ListComp elt [⟨tg, it, ifs, 0⟩] scope pos) spos) (tAsg (tCmp X scope own elt tg it ifs) (gName i)) :=
  ps_setLc hX.calm hX.nd hy hyl hsw pi_S ok (fun s0 H0 A cl fp => ⟨fun pins st σ H v u Q I rr h => h s0 H0 A cl fp pins st u I rr⟩) (fun s0 H0 A cl fp => ⟨fun pins st σ H Q I h => h s0 H0 A cl fp pins st I⟩) (fun s0 H0 A cl fp => ⟨fun pins st σ H Q I h => h s0 H0 A cl fp pins st I⟩) hs
theorem sl_comp {elt tg it : Expr} {ifs : List Expr} {scope : Scope} {own : List (Str × Nat)} {ci : CI} {cg : CG} {cc : Option CE} {ce : CE}
    (hi : SI X G k tg it ci) (hg : ∀ s H A cl fp, SGt (Blk X scope s H A cl fp) tg cg) (hc : ∀ s H A cl fp, SP1 (Blk X scope s H A cl fp) G k ifs cc) (he : ∀ s H A cl fp, SE (Blk X scope s H A cl fp) G k elt ce)
    (hsl : ∀ i ∈ cg.slots, i ∈ own.map (·.2)) : SLt X G k (tCmp X scope own elt tg it ifs) (.comp (own.map (·.2)) cg ci cc ce) := by
  intro μ O H h σ ρ v h' Q s r ev q
  unfold evE at ev
  obtain ⟨⟨src, xs⟩, h1, e1, ev⟩ := bind_ok ev
  obtain ⟨ys, h2, e2, ev⟩ := bind_ok ev
  split at ev
  · rename_i hlen
    cases ev
    refine hi μ O H h σ ρ src xs h1 _ s r e1 fun J μ1 H1 s1 t1 itk => ?_
    intro D hD
    have hOD : ¬ O D := fun z => by
      obtain ⟨ws, q⟩ := s1.nkO D z
      rw [hD] at q; cases q
    have hO : ∀ a, withO O D a → O a ∨ H1 a = none := fun a z => z.elim .inl fun e => .inr (by rw [e]; exact hD)
    generalize hf : (fun x h2 => match putG cg x (Br.wipe ρ (own.map (·.2))) with
        | none => (.err : Res (Option PV))
        | some ρ' => (evT G k cc ρ' h2).bind fun b h3 => if b then (evE G k ce ρ' h3).bind fun v h4 => (match purP v with
            | some y => .ok (some y) h4
            | none => .err) else .ok none h3) = f at e2
    -- W: the turn, what is left, the state
    refine ⟨fun i m H' => m = xs.length - i ∧ i ≤ xs.length ∧ ∃ μ2 hh done rest acc, SR X.K μ2 (withO O D) H' hh ∧ Stp X.K μ1 H1 μ2 H' ∧ RPs X.K H' (μ2.own (withO O D)) done acc ∧ H' D = some (.lst acc) ∧ done.length ≤ i ∧ ys = done ++ rest ∧
      mapLoop src f (xs.drop i) hh = .ok rest h', ⟨xs.length, ?_⟩, ?_⟩
    · exact ⟨rfl, Nat.zero_le _, μ1, h1, [], ys, [], s1.begin hD, Stp.new hD, .nil, upd_same, Nat.le_refl _, rfl, e2⟩
    · rintro i m H' ⟨rfl, hle, μ2, hh, done, rest, acc, s2, t2, rd, hacc, hdl, rfl, ml⟩
      by_cases hi : i < xs.length
      · -- a turn
        have hx : xs[i]? = some xs[i] := List.getElem?_eq_getElem hi
        rw [List.drop_eq_getElem_cons hi] at ml
        unfold mapLoop at ml
        split at ml
        · rename_i hst
          obtain ⟨o, h3, f1, ml⟩ := bind_ok ml
          obtain ⟨ys', h4, f2, ml⟩ := bind_ok ml
          obtain ⟨go, yl⟩ := (itk μ2 _ H' hh s2 t2 hO hst).1 i _ hx
          have hO2 : ∀ a, withO O D a → O a ∨ H a = none := fun a z => z.elim .inl fun e => by
            refine .inr ?_
            rw [e]
            cases q : H D with
            | none => rfl
            | some o => exact absurd hD (t1.trk D (by rw [q]; simp))
          refine .inr ⟨go, fun H'' => (xs.length - (i + 1) = xs.length - (i + 1) ∧ i + 1 ≤ xs.length ∧ ∃ μ2 hh done' rest' acc, SR X.K μ2 (withO O D) H'' hh ∧ Stp X.K μ1 H1 μ2 H'' ∧ RPs X.K H'' (μ2.own (withO O D)) done' acc ∧ H'' D = some (.lst acc) ∧ done'.length ≤ i + 1 ∧ done ++ rest = done' ++ rest' ∧
            mapLoop src f (xs.drop (i + 1)) hh = .ok rest' h'), fun H'' w => ⟨xs.length - (i + 1), by omega, w⟩, fun x H2 hy => ?_⟩
          obtain ⟨s3, t3, r3⟩ := yl x H2 hy
          intro s0 H0 A cl fp
          rw [← hf] at f1
          simp only at f1
          cases hp : putG cg xs[i] (Br.wipe ρ (own.map (·.2))) with
          | none => rw [hp] at f1; cases f1
          | some ρ' =>
            rw [hp] at f1
            have hE : RE X.K μ2 (withO O D) H2 (Br.wipe ρ (own.map (·.2))) (L2.wipe σ (own.map (·.2))) := (r.wipe _).stepO ((t1.trans t2).trans t3) hO2
            have nD : ∀ n, μ2.fn n ≠ some D := fun n z => s2.dis n D z (.inr rfl)
            have aD : H2 D = some (.lst acc) := t3.keep D _ hacc nD
            refine hg s0 H0 A cl fp μ2 (withO O D) H2 _ _ ρ' _ _ _ hE hp r3 fun σ2 q2 w2 => ⟨?_, fun s0 H0 A cl fp => ?_⟩
            · rw [w2 _ hsl, wipe_idem]
            · obtain ⟨b, h5, f3, f1⟩ := bind_ok f1
              refine hc s0 H0 A cl fp μ2 (withO O D) H2 hh σ2 ρ' b h5 _ s3 q2 f3 fun μ5 H5 s5 t5 => ?_
              have nD5 : ∀ n, μ5.fn n ≠ some D := fun n z => s5.dis n D z (.inr rfl)
              have aD5 : H5 D = some (.lst acc) := t5.keep D _ aD nD
              have t15 : Stp X.K μ1 H1 μ5 H5 := (t2.trans t3).trans t5
              cases b with
              | false =>
                rw [if_neg Bool.false_ne_true] at f1 ⊢
                cases f1
                cases ml
                exact ⟨rfl, hi, μ5, h3, done, ys', acc, s5, t15, (rd.step t3).step t5, aD5, by omega, rfl, f2⟩
              | true =>
                rw [if_pos rfl] at f1 ⊢
                obtain ⟨v, h6, f4, f1⟩ := bind_ok f1
                intro s0 H0 A cl fp
                refine he s0 H0 A cl fp μ5 (withO O D) H5 h5 σ2 ρ' v h6 _ s5 (q2.step t5) f4 fun y μ6 H6 s6 t6 r6 => ?_
                have aD6 : H6 D = some (.lst acc) := t6.keep D _ aD5 nD5
                cases v with
                | p v =>
                  cases f1
                  cases ml
                  cases r6 with
                  | p r6 =>
                    have rd6 := (((rd.step t3).step t5).step t6).append (.cons r6 .nil)
                    refine ⟨acc, aD6, ?_, rfl, hi, μ6, h3, done ++ [v], ys', acc ++ [y], s6.grow, (t15.trans t6).grow hD, rd6.grow, upd_same, ?_, ?_, f2⟩
                    · rw [rd.length, sizeLine_eq]; omega
                    · rw [List.length_append]; simp only [List.length_cons, List.length_nil]; omega
                    · simp
                | r _ => cases f1
                | g _ _ => cases f1
                | s _ => cases f1
                | t _ => cases f1
        · cases ml
      · have hie : i = xs.length := by omega
        subst hie
        rw [List.drop_length] at ml
        unfold mapLoop at ml
        split at ml
        · rename_i hst
          cases ml
          refine .inl ⟨(itk μ2 _ H' h' s2 t2 hO hst).2 _ (Nat.le_refl _), ?_⟩
          have z := q D (done ++ []) acc μ2 (erase H' D) rfl (s2.finish hOD) (t1.trans (t2.finish hD)) (by unfold erase; rw [if_pos rfl]) (by rw [List.append_nil]; exact rd.finish)
          rw [erase_upd hacc] at z
          exact z
        · cases ml
  · cases ev
end
end Br

set_option autoImplicit false
set_option linter.all false
set_option maxRecDepth 100000
namespace Br
open PySem PySem.Spec PyProof.Rows L2
section
variable {X : Cx} {G : Nat → Option PV} {k : Ask} {T : Tab} {C : CXT} {sc : Scope}
/-! ### tests -/
theorem sb_plain {e : Expr} {c : CE} (h : SE X G k e c) (he : ∀ whole, isTrue e X.env whole = (do let v ← whole; standAt e.pos; holding [v] (truthy v))) : SB X G k e c := by
  intro μ O H h0 σ ρ v b h' Q s r ev et q
  refine tTS.of (pt_truth pe_S he) ?_
  exact h μ O H h0 σ ρ v h' _ s r ev fun x μ1 H1 s1 t1 r1 => ⟨b, tru_of s1 r1 et, q μ1 H1 s1 t1⟩
theorem sb_not {a : Expr} {ca : CE} {pos : Pos} (ha : SB X G k a ca) : SB X G k (.UnaryOp .Not a pos) (.not_ ca) := by
  intro μ O H h σ ρ v b h' Q s r ev et q
  unfold evE at ev
  obtain ⟨v1, h1, e1, ev⟩ := bind_ok ev
  obtain ⟨c, e3, rfl, rfl⟩ := outB_ok ev
  obtain ⟨d, e4, rfl⟩ := Option.map_eq_some_iff.mp e3
  cases et
  refine tTS.of (pt_not pt_S) ?_
  exact ha μ O H h σ ρ v1 d h' _ s r e1 e4 fun μ1 H1 s1 t1 => q μ1 H1 s1 t1
theorem sb_cmp {a b : Expr} {ca cb : CE} {op : CmpOp} {pos : Pos} (hX : SX T G k C X sc) (hn : noSet b = true) (ho : cmpS op = true) (ha : SE X G k a ca) (hb : SE X G k b cb) : SB X G k (.Compare a [op] [b] pos) (.cmp (copOf op) ca cb) := by
  intro μ O H h σ ρ v d h' Q s r ev et q
  unfold evE at ev
  obtain ⟨v1, h1, e1, ev⟩ := bind_ok ev
  obtain ⟨v2, h2, e2, ev⟩ := bind_ok ev
  obtain ⟨c, e3, rfl, rfl⟩ := outB_ok ev
  cases et
  refine tTS.of (pt_cmpR op_S pe_S pe_S (mark_of hn)) ?_
  refine ha μ O H h σ ρ v1 h1 _ s r e1 fun x1 μ1 H1 s1 t1 r1 => ?_
  refine hb μ1 O H1 h1 σ ρ v2 h' _ s1 (r.step t1) e2 fun x2 μ2 H2 s2 t2 r2 => ?_
  exact sim_cmpW (Q := fun x H' => ∃ k, x = .bl k ∧ Q k H') s2 (by have := hX.un; omega) ho e3 (r1.step t2) r2 ⟨_, rfl, q μ2 H2 s2 (t1.trans t2)⟩
theorem sb_cmp2 {a b c : Expr} {ca cb cc : CE} {op op' : CmpOp} {pos : Pos} (hX : SX T G k C X sc) (hn : noSet c = true) (ho : cmpS op = true) (ho' : cmpS op' = true) (ha : SE X G k a ca) (hb : SE X G k b cb) (hc : SE X G k c cc) :
    SB X G k (.Compare a [op, op'] [b, c] pos) (.cmp2 (copOf op) (copOf op') ca cb cc) := by
  intro μ O H h σ ρ v d h' Q s r ev et q
  unfold evE at ev
  obtain ⟨v1, h1, e1, ev⟩ := bind_ok ev
  obtain ⟨v2, h2, e2, ev⟩ := bind_ok ev
  refine tTS.of (pt_chain op_S op_S pe_S pe_S pe_S (show behindInMarks op' c = false from mark_of hn)) ?_
  refine ha μ O H h σ ρ v1 h1 _ s r e1 fun x1 μ1 H1 s1 t1 r1 => ?_
  refine hb μ1 O H1 h1 σ ρ v2 h2 _ s1 (r.step t1) e2 fun x2 μ2 H2 s2 t2 r2 => ?_
  have hu : X.A.units + 64 < cLine := by have := hX.un; omega
  have go : ∀ {b : Bool}, cmpW h2 (copOf op) v1 v2 = some b → ∀ {Q' : VK}, Q' (.bl b) H2 → oS X (compareOp op) x1 x2 H2 Q' := fun {b} z {Q'} q' => by
    exact sim_cmpW (Q := Q') s2 hu ho z (r1.step t2) r2 q'
  rcases brO_ok ev with ⟨z, ev⟩ | ⟨z, ev⟩
  · refine go z ⟨true, rfl, ?_⟩
    rw [if_pos rfl]
    obtain ⟨v3, h3, e6, ev⟩ := bind_ok ev
    obtain ⟨d', e7, rfl, rfl⟩ := outB_ok ev
    cases et
    refine hc μ2 O H2 h2 σ ρ v3 h' _ s2 (r.step (t1.trans t2)) e6 fun x3 μ3 H3 s3 t3 r3 => ?_
    exact sim_cmpW (Q := fun x H' => ∃ k, x = .bl k ∧ Q k H') s3 hu ho' e7 (r2.step t3) r3 ⟨_, rfl, q μ3 H3 s3 ((t1.trans t2).trans t3)⟩
  · cases ev
    cases et
    refine go z ⟨false, rfl, ?_⟩
    rw [if_neg Bool.false_ne_true]
    exact ⟨false, rfl, q μ2 H2 s2 (t1.trans t2)⟩
/-- a test whatever the whole is -/
def SW (X : Cx) (G : Nat → Option PV) (k : Ask) (e : Expr) (c : CE) : Prop := ∀ (μ : Mu) (O : Addr → Prop) (H : Hp) (h : CH) (σ : L2.St) (ρ : Env) (v : VV) (b : Bool) (h' : CH) (Q : Bool → Hp → Prop), SR X.K μ O H h → RE X.K μ O H ρ σ → evE G k c ρ h = .ok v h' → truth h' v = some b →
  (∀ μ' H', SR X.K μ' O H' h' → Stp X.K μ H μ' H' → Q b H') → tWS X e σ H Q
theorem SW.sb {e : Expr} {c : CE} (h : SW X G k e c) : SB X G k e c := fun μ O H h0 σ ρ v b h' Q s r ev et q pins st I => h μ O H h0 σ ρ v b h' Q s r ev et q _ pins st I
theorem sw_and {pos : Pos} : ∀ {es : List Expr} {cs : List CE}, (∃ f, mapE f es = some cs ∧ ∀ e c, f e = some c → SB X G k e c) → SW X G k (.BoolOp .And es pos) (.and_ cs)
  | [], cs, ⟨f, e, _⟩ => by
    intro μ O H h σ ρ v b h' Q s r ev et q
    cases e
    unfold evE evAnd at ev
    cases ev
  | e :: es, cs, ⟨f, hm, hf⟩ => by
    unfold mapE at hm
    obtain ⟨c, e1, hm⟩ := Option.bind_eq_some_iff.mp hm
    obtain ⟨cs', e2, rfl⟩ := Option.map_eq_some_iff.mp hm
    have hc := hf e c e1
    have ih := sw_and (pos := pos) (es := es) (cs := cs') ⟨f, e2, hf⟩
    intro μ O H h σ ρ v b h' Q s r ev et q
    unfold evE evAnd at ev
    obtain ⟨v1, h1, e3, ev⟩ := bind_ok ev
    cases es with
    | nil =>
      cases e2
      cases ev
      exact tWS.of (pw_and1 pt_S) (hc μ O H h σ ρ _ b _ _ s r e3 et q)
    | cons e' es =>
      cases cs' with
      | nil =>
        unfold mapE at e2
        obtain ⟨_, _, e2⟩ := Option.bind_eq_some_iff.mp e2
        obtain ⟨_, _, e2⟩ := Option.map_eq_some_iff.mp e2
        cases e2
      | cons c' cs' =>
        refine tWS.of (pw_and pt_S pw_S) ?_
        rcases brO_ok ev with ⟨z, ev⟩ | ⟨z, ev⟩
        · refine hc μ O H h σ ρ v1 true h1 _ s r e3 z fun μ1 H1 s1 t1 => ?_
          rw [if_pos rfl]
          exact ih μ1 O H1 h1 σ ρ v b h' _ s1 (r.step t1) (by unfold evE; exact ev) et fun μ2 H2 s2 t2 => q μ2 H2 s2 (t1.trans t2)
        · cases ev
          rw [z] at et
          cases et
          refine hc μ O H h σ ρ _ false h' _ s r e3 z fun μ1 H1 s1 t1 => ?_
          rw [if_neg Bool.false_ne_true]
          exact q μ1 H1 s1 t1
theorem sw_or {pos : Pos} : ∀ {es : List Expr} {cs : List CE}, (∃ f, mapE f es = some cs ∧ ∀ e c, f e = some c → SB X G k e c) → SW X G k (.BoolOp .Or es pos) (.or_ cs)
  | [], cs, ⟨f, e, _⟩ => by
    intro μ O H h σ ρ v b h' Q s r ev et q
    cases e
    unfold evE evOr at ev
    cases ev
  | e :: es, cs, ⟨f, hm, hf⟩ => by
    unfold mapE at hm
    obtain ⟨c, e1, hm⟩ := Option.bind_eq_some_iff.mp hm
    obtain ⟨cs', e2, rfl⟩ := Option.map_eq_some_iff.mp hm
    have hc := hf e c e1
    have ih := sw_or (pos := pos) (es := es) (cs := cs') ⟨f, e2, hf⟩
    intro μ O H h σ ρ v b h' Q s r ev et q
    unfold evE evOr at ev
    obtain ⟨v1, h1, e3, ev⟩ := bind_ok ev
    cases es with
    | nil =>
      cases e2
      cases ev
      exact tWS.of (pw_or1 pt_S) (hc μ O H h σ ρ _ b _ _ s r e3 et q)
    | cons e' es =>
      cases cs' with
      | nil =>
        unfold mapE at e2
        obtain ⟨_, _, e2⟩ := Option.bind_eq_some_iff.mp e2
        obtain ⟨_, _, e2⟩ := Option.map_eq_some_iff.mp e2
        cases e2
      | cons c' cs' =>
        refine tWS.of (pw_or pt_S pw_S) ?_
        rcases brO_ok ev with ⟨z, ev⟩ | ⟨z, ev⟩
        · cases ev
          rw [z] at et
          cases et
          refine hc μ O H h σ ρ _ true h' _ s r e3 z fun μ1 H1 s1 t1 => ?_
          rw [if_pos rfl]
          exact q μ1 H1 s1 t1
        · refine hc μ O H h σ ρ v1 false h1 _ s r e3 z fun μ1 H1 s1 t1 => ?_
          rw [if_neg Bool.false_ne_true]
          exact ih μ1 O H1 h1 σ ρ v b h' _ s1 (r.step t1) (by unfold evE; exact ev) et fun μ2 H2 s2 t2 => q μ2 H2 s2 (t1.trans t2)
theorem sb_ife {c a b : Expr} {cc ca cb : CE} {pos : Pos} (hc : SB X G k c cc) (ha : SB X G k a ca) (hb : SB X G k b cb) : SB X G k (.IfExp c a b pos) (.ife cc ca cb) := by
  intro μ O H h σ ρ v d h' Q s r ev et q
  unfold evE at ev
  obtain ⟨v1, h1, e1, ev⟩ := bind_ok ev
  intro pins st I
  rcases brO_ok ev with ⟨z, ev⟩ | ⟨z, ev⟩
  · refine isTrue_IfExp (thn (hc μ O H h σ ρ v1 true h1 (fun b H1 => b = true ∧ ∃ μ1, SR X.K μ1 O H1 h1 ∧ Stp X.K μ H μ1 H1) s r e1 z (fun μ1 H1 s1 t1 => ⟨rfl, μ1, s1, t1⟩) pins st I) fun b s' ⟨H1, I1, hb, μ1, s1, t1⟩ => ?_)
    subst hb
    exact ha μ1 O H1 h1 σ ρ v d h' Q s1 (r.step t1) ev et (fun μ2 H2 s2 t2 => q μ2 H2 s2 (t1.trans t2)) pins s' I1
  · refine isTrue_IfExp (thn (hc μ O H h σ ρ v1 false h1 (fun b H1 => b = false ∧ ∃ μ1, SR X.K μ1 O H1 h1 ∧ Stp X.K μ H μ1 H1) s r e1 z (fun μ1 H1 s1 t1 => ⟨rfl, μ1, s1, t1⟩) pins st I) fun b s' ⟨H1, I1, hbb, μ1, s1, t1⟩ => ?_)
    subst hbb
    exact hb μ1 O H1 h1 σ ρ v d h' Q s1 (r.step t1) ev et (fun μ2 H2 s2 t2 => q μ2 H2 s2 (t1.trans t2)) pins s' I1
end

/-! ### all expressions -/
section
variable {G : Nat → Option PV} {k : Ask} {T : Tab} {C : CXT}
theorem mapE_len {f : Expr → Option CE} : ∀ {es : List Expr} {cs : List CE}, mapE f es = some cs → cs.length = es.length
  | [], _, h => by cases h; rfl
  | e :: es, _, h => by
    unfold mapE at h
    obtain ⟨c, e1, h⟩ := Option.bind_eq_some_iff.mp h
    obtain ⟨cs', e2, rfl⟩ := Option.map_eq_some_iff.mp h
    rw [List.length_cons, List.length_cons, mapE_len e2]
theorem mapE_star {f : Expr → Option CE} (hf : ∀ e c, f e = some c → noStar e = true) : ∀ {es : List Expr} {cs : List CE}, mapE f es = some cs → ∀ e ∈ es, noStar e = true
  | [], _, _, _, he => by cases he
  | e :: es, _, h, e', he => by
    unfold mapE at h
    obtain ⟨c, e1, h⟩ := Option.bind_eq_some_iff.mp h
    obtain ⟨cs', e2, rfl⟩ := Option.map_eq_some_iff.mp h
    rcases List.mem_cons.mp he with z | z
    · rw [z]; exact hf e c e1
    · exact mapE_star hf e2 e' z
theorem ses_of {X : Cx} {f : Expr → Option CE} (hs : ∀ e c, f e = some c → noStar e = true) (hf : ∀ e c, f e = some c → SE X G k e c) : ∀ {es : List Expr} {cs : List CE}, mapE f es = some cs → SEs X G k es cs
  | [], _, h => by cases h; exact ses_nil
  | e :: es, _, h => by
    unfold mapE at h
    obtain ⟨c, e1, h⟩ := Option.bind_eq_some_iff.mp h
    obtain ⟨cs', e2, rfl⟩ := Option.map_eq_some_iff.mp h
    exact ses_cons (hs e c e1) (hf e c e1) (ses_of hs hf e2)
theorem folded_of {e : Expr} {env : PySem.Env} (h : noSet e = true) : ∀ x, foldedSetIterable e env x = pure x := by
  intro x
  cases e <;> first | rfl | cases h
/-- what is known of n levels of text -/
structure PEn (T : Tab) (G : Nat → Option PV) (k : Ask) (C : CXT) (n : Nat) : Prop where
  e : ∀ (X : Cx) (sc : Scope), SX T G k C X sc → ∀ e c, sE T X.N n sc e = some c → SE X G k e c ∧ SB X G k e c ∧ noStar e = true
  i : ∀ (X : Cx) (sc : Scope), SX T G k C X sc → ∀ tg e c, sI T X.N n sc tg e = some c → SI X G k tg e c ∧ ∀ x, foldedSetIterable e X.env x = pure x
  f : ∀ (X : Cx) (sc : Scope), SX T G k C X sc → ∀ es c, sIf T X.N n sc es = some c → SP1 X G k es c
end
end Br

set_option autoImplicit false
set_option linter.all false
set_option maxRecDepth 100000
set_option maxHeartbeats 4000000
namespace Br
open PySem PySem.Spec PyProof.Rows L2
section
variable {G : Nat → Option PV} {k : Ask} {T : Tab} {C : CXT}
theorem three {X : Cx} {e : Expr} {c : CE} (hs : noStar e = true) (he : ∀ whole, isTrue e X.env whole = (do let v ← whole; standAt e.pos; holding [v] (truthy v))) (z : SE X G k e c) : SE X G k e c ∧ SB X G k e c ∧ noStar e = true := ⟨z, sb_plain z he, hs⟩
theorem pen : ∀ n, PEn T G k C n
  | 0 => ⟨(fun X sc hX e c h => by unfold sE at h; cases h), (fun X sc hX tg e c h => by unfold sI at h; cases h), (fun X sc hX es c h => by unfold sIf at h; cases h)⟩
  | n + 1 => by
    have ih := pen n
    refine ⟨fun X sc hX e c h => ?_, fun X sc hX tg e c h => ?_, fun X sc hX es c h => ?_⟩
    · have ie := ih.e X sc hX
      have star : ∀ e c, sE T X.N n sc e = some c → noStar e = true := fun e c h => (ie e c h).2.2
      have se : ∀ e c, sE T X.N n sc e = some c → SE X G k e c := fun e c h => (ie e c h).1
      have sb : ∀ e c, sE T X.N n sc e = some c → SB X G k e c := fun e c h => (ie e c h).2.1
      unfold sE at h
      split at h
      · -- a name
        split at h
        · rename_i hv
          obtain ⟨i, h1, rfl⟩ := Option.map_eq_some_iff.mp h
          exact three rfl (fun _ => rfl) (se_var (G := G) (k := k) hX (slot_of h1) hv)
        · split at h
          · rename_i hg
            obtain ⟨i, h1, rfl⟩ := Option.map_eq_some_iff.mp h
            exact three rfl (fun _ => rfl) (se_glo hX hg h1)
          · cases h
      · cases h; exact ⟨se_int, sb_plain se_int fun _ => rfl, rfl⟩
      · cases h; exact ⟨se_bl, sb_plain se_bl fun _ => rfl, rfl⟩
      · cases h; exact ⟨se_non, sb_plain se_non fun _ => rfl, rfl⟩
      · split at h
        · rename_i ho
          cases h; exact ⟨se_str ho, sb_plain (se_str ho) fun _ => rfl, rfl⟩
        · cases h
      · -- an operator
        obtain ⟨o, h1, h⟩ := Option.bind_eq_some_iff.mp h
        obtain ⟨a', h2, h⟩ := Option.bind_eq_some_iff.mp h
        obtain ⟨b', h3, rfl⟩ := Option.map_eq_some_iff.mp h
        exact three rfl (fun _ => rfl) (se_bin h1 (se _ _ h2) (se _ _ h3))
      · obtain ⟨a', h2, rfl⟩ := Option.map_eq_some_iff.mp h
        exact three rfl (fun _ => rfl) (se_neg (se _ _ h2))
      · obtain ⟨a', h2, rfl⟩ := Option.map_eq_some_iff.mp h
        exact ⟨se_not (se _ _ h2), sb_not (sb _ _ h2), rfl⟩
      · obtain ⟨a', h2, rfl⟩ := Option.map_eq_some_iff.mp h
        exact ⟨se_and ⟨_, h2, se⟩, (sw_and ⟨_, h2, sb⟩).sb, rfl⟩
      · obtain ⟨a', h2, rfl⟩ := Option.map_eq_some_iff.mp h
        exact ⟨se_or ⟨_, h2, se⟩, (sw_or ⟨_, h2, sb⟩).sb, rfl⟩
      · obtain ⟨o, h1, h⟩ := Option.bind_eq_some_iff.mp h
        obtain ⟨a', h2, h⟩ := Option.bind_eq_some_iff.mp h
        obtain ⟨b', h3, rfl⟩ := Option.map_eq_some_iff.mp h
        exact ⟨se_ife (sb _ _ h1) (se _ _ h2) (se _ _ h3), sb_ife (sb _ _ h1) (sb _ _ h2) (sb _ _ h3), rfl⟩
      · split at h
        · rename_i hc
          simp only [Bool.and_eq_true] at hc
          obtain ⟨a', h2, h⟩ := Option.bind_eq_some_iff.mp h
          obtain ⟨b', h3, rfl⟩ := Option.map_eq_some_iff.mp h
          exact ⟨se_cmp hX hc.1 hc.2 (se _ _ h2) (se _ _ h3), sb_cmp hX hc.1 hc.2 (se _ _ h2) (se _ _ h3), rfl⟩
        · cases h
      · split at h
        · rename_i hc
          simp only [Bool.and_eq_true] at hc
          obtain ⟨a', h2, h⟩ := Option.bind_eq_some_iff.mp h
          obtain ⟨b', h3, h⟩ := Option.bind_eq_some_iff.mp h
          obtain ⟨c', h4, rfl⟩ := Option.map_eq_some_iff.mp h
          exact ⟨se_cmp2 hX hc.1.1 hc.1.2 hc.2 (se _ _ h2) (se _ _ h3) (se _ _ h4), sb_cmp2 hX hc.1.1 hc.1.2 hc.2 (se _ _ h2) (se _ _ h3) (se _ _ h4), rfl⟩
        · cases h
      · split at h
        · rename_i hl
          obtain ⟨cs, h2, rfl⟩ := Option.map_eq_some_iff.mp h
          exact three rfl (fun _ => rfl) (se_tup (by rw [mapE_len h2]; exact hl) (ses_of star se h2))
        · cases h
      · split at h
        · rename_i hl
          obtain ⟨cs, h2, rfl⟩ := Option.map_eq_some_iff.mp h
          exact three rfl (fun _ => rfl) ((sl_lst (by rw [mapE_len h2]; exact hl) (ses_of star se h2)).thw (T := T))
        · cases h
      · -- a slice
        obtain ⟨a', h2, h⟩ := Option.bind_eq_some_iff.mp h
        obtain ⟨l, h3, h⟩ := Option.bind_eq_some_iff.mp h
        obtain ⟨u, h4, rfl⟩ := Option.map_eq_some_iff.mp h
        have so : ∀ {o : Option Expr} {c : Option CE}, mapO (sE T X.N n sc) o = some c → SO X G k o c := fun {o c} h => by
          cases o with
          | none => cases h; exact trivial
          | some e =>
            unfold mapO at h
            obtain ⟨c', h5, rfl⟩ := Option.map_eq_some_iff.mp h
            exact se _ _ h5
        exact three rfl (fun _ => rfl) (se_slc (se _ _ h2) (so h3) (so h4))
      · split at h
        · rename_i hs
          obtain ⟨a', h2, h⟩ := Option.bind_eq_some_iff.mp h
          obtain ⟨i', h3, rfl⟩ := Option.map_eq_some_iff.mp h
          exact three rfl (fun _ => rfl) (se_idx hs (se _ _ h2) (se _ _ h3))
        · cases h
      · -- a call
        split at h
        · rename_i hg
          split at h
          · rename_i f hf
            obtain ⟨cs, h2, rfl⟩ := Option.map_eq_some_iff.mp h
            exact three rfl (fun _ => rfl) (se_call hX hg hf (mapE_star star h2) (mapE_len h2) (ses_of star se h2))
          · split at h
            · rename_i hx
              have hx' := beq_iff_eq.mp hx
              subst hx'
              split at h
              · split at h
                · rename_i hl
                  obtain ⟨c1, h2, h⟩ := Option.bind_eq_some_iff.mp h
                  obtain ⟨us, h3, rfl⟩ := Option.map_eq_some_iff.mp h
                  exact three rfl (fun _ => rfl) (se_isiT hX hg (star _ _ h2) (se _ _ h2) h3 hl)
                · cases h
              · obtain ⟨c1, h2, h⟩ := Option.bind_eq_some_iff.mp h
                obtain ⟨u, h3, rfl⟩ := Option.map_eq_some_iff.mp h
                exact three rfl (fun _ => rfl) (se_isi hX hg (star _ _ h2) (se _ _ h2) h3)
              · cases h
            · split at h
              · rename_i hx
                have hx' := beq_iff_eq.mp hx
                split at h
                · obtain ⟨c1, h2, rfl⟩ := Option.map_eq_some_iff.mp h
                  exact three rfl (fun _ => rfl) (se_rng hx' hX hg (fun e' he => by
                    have w := List.mem_singleton.mp he
                    rw [w]; exact star _ _ h2) (by simp) rfl (ses_cons (star _ _ h2) (se _ _ h2) ses_nil))
                · obtain ⟨c1, h2, h⟩ := Option.bind_eq_some_iff.mp h
                  obtain ⟨c2, h3, rfl⟩ := Option.map_eq_some_iff.mp h
                  exact three rfl (fun _ => rfl) (se_rng hx' hX hg (fun e' he => by
                    rcases List.mem_cons.mp he with w | w
                    · rw [w]; exact star _ _ h2
                    · have w := List.mem_singleton.mp w
                      rw [w]; exact star _ _ h3) (by simp) rfl (ses_cons (star _ _ h2) (se _ _ h2) (ses_cons (star _ _ h3) (se _ _ h3) ses_nil)))
                · cases h
              · split at h
                · rename_i hx
                  have hx' := beq_iff_eq.mp hx
                  split at h
                  · obtain ⟨c1, h2, rfl⟩ := Option.map_eq_some_iff.mp h
                    exact three rfl (fun _ => rfl) (se_rpr hx' hX hg (star _ _ h2) (se _ _ h2))
                  · cases h
                split at h
                · cases h
                · obtain ⟨b, h1, h⟩ := Option.bind_eq_some_iff.mp h
                  obtain ⟨cs, h2, h⟩ := Option.map_eq_some_iff.mp h
                  have h2' := h2
                  subst h
                  split
                  · rename_i hc
                    simp only [Bool.and_eq_true] at hc
                    have hb := of_decide_eq_true hc.1.2
                    subst hb
                    have he := List.isEmpty_iff.mp hc.2
                    subst he
                    unfold mapE at h2
                    obtain ⟨c1, h3, h2⟩ := Option.bind_eq_some_iff.mp h2
                    obtain ⟨_, h4, rfl⟩ := Option.map_eq_some_iff.mp h2
                    cases h4
                    exact three rfl (fun _ => rfl) (sl_list hX hg h1 (star _ _ h3) (se _ _ h3)).thaw
                  · exact three rfl (fun _ => rfl) (se_bi hX hg h1 (mapE_star star h2') (ses_of star se h2'))
        · cases h
      · -- append
        split at h
        · rename_i hc
          simp only [Bool.and_eq_true] at hc
          obtain ⟨o', h2, h⟩ := Option.bind_eq_some_iff.mp h
          obtain ⟨e', h3, rfl⟩ := Option.map_eq_some_iff.mp h
          have hm := beq_iff_eq.mp hc.1.1
          subst hm
          exact three rfl (fun _ => rfl) (se_append (star _ _ h3) hc.1.2 hc.2 (se _ _ h2) (se _ _ h3))
        · cases h
      · -- a comprehension
        obtain ⟨ci, h1, h⟩ := Option.bind_eq_some_iff.mp h
        obtain ⟨cg, h2, h⟩ := Option.bind_eq_some_iff.mp h
        obtain ⟨cc, h3, h⟩ := Option.bind_eq_some_iff.mp h
        obtain ⟨ce, h4, h⟩ := Option.bind_eq_some_iff.mp h
        obtain ⟨own, h5, h⟩ := Option.bind_eq_some_iff.mp h
        split at h
        · rename_i hc
          simp only [Bool.and_eq_true] at hc
          cases h
          obtain ⟨a1, a2⟩ := ih.i X sc hX _ _ _ h1
          have hz : ∀ i ∈ cg.slots, i ∈ own.map (·.2) := fun i hi => List.contains_iff_mem.mp (List.all_eq_true.mp hc.2 i hi)
          refine three rfl (fun _ => rfl) fun μ O H h σ ρ v h' Q s r ev q => tS.of (pe_cmp' hX (hX.blkOk hc.1) a2) ?_
          exact (sl_comp a1 (fun s H A cl fp => (sg_ok (hX.blk _ s H A cl fp) n h2).1) (fun s H A cl fp => ih.f _ _ (hX.blk _ s H A cl fp) _ _ h3) (fun s H A cl fp => (ih.e _ _ (hX.blk _ s H A cl fp) _ _ h4).1) hz).thw μ O H h σ ρ v h' Q s r ev q
        · cases h
      · cases h
    · have ie := ih.e X sc hX
      have star : ∀ e c, sE T X.N n sc e = some c → noStar e = true := fun e c h => (ie e c h).2.2
      have se : ∀ e c, sE T X.N n sc e = some c → SE X G k e c := fun e c h => (ie e c h).1
      have val : ∀ {e : Expr} {c : CI}, noSet e = true → (sE T X.N n sc e).map CI.val = some c → SI X G k tg e c ∧ ∀ x, foldedSetIterable e X.env x = pure x := fun {e c} hs h => by
        obtain ⟨c', h1, rfl⟩ := Option.map_eq_some_iff.mp h
        exact ⟨si_val (se _ _ h1), folded_of hs⟩
      unfold sI at h
      split at h
      · split at h
        · rename_i hg
          simp only [Bool.and_eq_true] at hg
          split at h
          · rename_i hx
            have hx' := beq_iff_eq.mp hx
            split at h
            · obtain ⟨c1, h2, rfl⟩ := Option.map_eq_some_iff.mp h
              exact ⟨si_rng hx' hX hg.1 (fun e' he => by
                have w := List.mem_singleton.mp he
                rw [w]; exact star _ _ h2) (.inl rfl) rfl (ses_cons (star _ _ h2) (se _ _ h2) ses_nil), folded_of rfl⟩
            · obtain ⟨c1, h2, h⟩ := Option.bind_eq_some_iff.mp h
              obtain ⟨c2, h3, rfl⟩ := Option.map_eq_some_iff.mp h
              exact ⟨si_rng hx' hX hg.1 (fun e' he => by
                rcases List.mem_cons.mp he with w | w
                · rw [w]; exact star _ _ h2
                · have w := List.mem_singleton.mp w
                  rw [w]; exact star _ _ h3) (.inr rfl) rfl (ses_cons (star _ _ h2) (se _ _ h2) (ses_cons (star _ _ h3) (se _ _ h3) ses_nil)), folded_of rfl⟩
            · cases h
          · split at h
            · rename_i hx
              have hx' := beq_iff_eq.mp hx
              subst hx'
              split at h
              · obtain ⟨c1, h2, h⟩ := Option.bind_eq_some_iff.mp h
                obtain ⟨c2, h3, rfl⟩ := Option.map_eq_some_iff.mp h
                exact ⟨si_zip hX hg.1 (star _ _ h2) (star _ _ h3) (se _ _ h2) (se _ _ h3), folded_of rfl⟩
              · cases h
            · split at h
              · rename_i hx
                have hx' := beq_iff_eq.mp hx
                subst hx'
                split at h
                · obtain ⟨c1, h2, rfl⟩ := Option.map_eq_some_iff.mp h
                  exact ⟨si_enm hX hg.1 (star _ _ h2) (se _ _ h2), folded_of rfl⟩
                · cases h
              · exact val rfl h
        · exact val rfl h
      · cases h
      · rename_i hns
        refine val ?_ h
        cases e <;> first | rfl | exact absurd rfl (hns _ _ _)
    · have ie := ih.e X sc hX
      cases es with
      | nil => unfold sIf at h; cases h; exact sp_nil
      | cons e r =>
        cases r with
        | nil =>
          unfold sIf at h
          obtain ⟨c1, h2, rfl⟩ := Option.map_eq_some_iff.mp h
          exact sp_one (ie _ _ h2).2.1
        | cons e2 r => unfold sIf at h; cases h
end
end Br

set_option autoImplicit false
set_option linter.all false
set_option maxRecDepth 100000
set_option maxHeartbeats 4000000
/-! Statements. -/
namespace Br
open PySem PySem.Spec PyProof.Rows L2

def noCmp : Expr → Bool
  | .ListComp .. => false
  | .SetComp .. => false
  | .DictComp .. => false
  | _ => true
def noTup : Expr → Bool
  | .Tuple .. => false
  | _ => true
/-- plain local names of one line: their slots -/
def parOf (N : List Str) (sc : Scope) (ln : Nat) : List Expr → Option (List Nat)
  | [] => some []
  | .Name x p :: r => if decide (sc.names.lookup x = some .local) && (p.line == ln) then (slotOf N x).bind fun i => (parOf N sc ln r).map (i :: ·) else none
  | _ => none
/-- names of which one at least is a cell: no stores are swapped -/
def parC (N : List Str) (sc : Scope) : List Expr → Option (List Nat)
  | [] => some []
  | .Name x _ :: r => if decide (sc.names.lookup x = some .local) || decide (sc.names.lookup x = some .cell) then (slotOf N x).bind fun i => (parC N sc r).map (i :: ·) else none
  | _ => none
def hasCell (sc : Scope) (ts : List Expr) : Bool := ts.any fun
  | .Name x _ => decide (sc.names.lookup x = some .cell)
  | _ => false
def lineOf : List Expr → Nat
  | [] => 0
  | t :: _ => t.pos.line
def noDup : List Nat → Bool
  | [] => true
  | i :: r => !r.contains i && noDup r
def isDoc : Stmt → Bool
  | .Expr (.Constant (.str _) _ _) _ => true
  | _ => false
/-- a name gets a new list -/
def sCmpAsg (T : Tab) (N : List Str) (n : Nat) (sc : Scope) (x : Str) (px : Pos) (e : Expr) : Option CS :=
  match e with
  | .ListComp elt gs scope pos => if decide (sc.names.lookup x = some .local) && (px.line == pos.line) && !(scope.names.any fun (n, k) => n == x && (k == .local || k == .cell)) then
      (slotOf N x).bind fun i => (sE T N n sc (.ListComp elt gs scope pos)).map fun c => .asg (.nm i) c else none
  | _ => none
mutual
def sSt (T : Tab) (N : List Str) : Nat → Scope → Stmt → Option CS
  | 0, _, _ => none
  | n + 1, sc, st => match st with
    | .Expr e _ => if noCmp e then (sE T N n sc e).map .exp else none
    | .Return none _ => some .retN
    | .Return (some e) pos => (sE T N n sc e).map fun c => if T.frz.contains pos then .frz c else .ret c
    | .If c a b _ => (sE T N n sc c).bind fun c' => (sBl T N n sc a).bind fun a' => (sBl T N n sc b).map fun b' => .ife c' a' b'
    | .For tg it b [] _ => (sI T N n sc tg it).bind fun ci => (sG N n sc tg).bind fun g => (sBl T N n sc b).map fun b' => .for_ g ci b'
    | .While c b [] _ => (sE T N n sc c).bind fun c' => (sBl T N n sc b).map fun b' => .whl c' b'
    | .Raise .. => some (.rse 0 [])
    | .Pass _ => some .pass
    | .Break _ => some .brk
    | .Continue _ => some .cnt
    | .Assign [.Name x px] e pos => if noCmp e then (if decide (sc.names.lookup x = some .local) || decide (sc.names.lookup x = some .cell) then (slotOf N x).bind fun i => (sE T N n sc e).map fun c => .asg (.nm i) c else none)
      else sCmpAsg T N n sc x px e
    | .Assign [.Tuple ts k tp] (.Tuple es k2 tp2) _ => if es.all (foldedForSure 8) || decide (3 < ts.length) then (sE T N n sc (.Tuple es k2 tp2)).bind fun c => (sG N n sc (.Tuple ts k tp)).map fun g => .asg g c
      else if hasCell sc ts then (parC N sc ts).bind fun is => (mapE (sE T N n sc) es).bind fun cs => if noDup is && (es.length == ts.length) && decide (es.length ≤ 1000) then some (.par is cs) else none
      else if es.all (constantsAlone 8) then none
      else (parOf N sc (lineOf ts) ts).bind fun is => (mapE (sE T N n sc) es).bind fun cs => if noDup is && (es.length == ts.length) && (ts.length == 2 || ts.length == 3) then some (.par is cs) else none
    | .Assign [.Tuple ts k tp] e _ => if noTup e then (sE T N n sc e).bind fun c => (sG N n sc (.Tuple ts k tp)).map fun g => .asg g c else none
    | .Assign [.Subscript o i _] e _ => if noSlc i then (sE T N n sc e).bind fun c => (sE T N n sc o).bind fun o' => (sE T N n sc i).map fun i' => .setI o' i' c else none
    | _ => none
def sBl (T : Tab) (N : List Str) : Nat → Scope → List Stmt → Option (List CS)
  | 0, _, _ => none
  | _ + 1, _, [] => some []
  | n + 1, sc, st :: ss => if isDoc st then sBl T N n sc ss else (sSt T N n sc st).bind fun c => (sBl T N n sc ss).map (c :: ·)
end

/-- how a statement ends -/
def Lands (K : PySem.W.Frag) (μ : Mu) (O : Addr → Prop) (H : Hp) (h' : CH) (D : Ends) : Fl → Prop
  | .nx ρ' => ∀ σ' μ' H', SR K μ' O H' h' → Stp K μ H μ' H' → RE K μ' O H' ρ' σ' → D.nx σ' H'
  | .bk ρ' => ∀ σ' μ' H', SR K μ' O H' h' → Stp K μ H μ' H' → RE K μ' O H' ρ' σ' → D.bk σ' H'
  | .ct ρ' => ∀ σ' μ' H', SR K μ' O H' h' → Stp K μ H μ' H' → RE K μ' O H' ρ' σ' → D.ct σ' H'
  | .rt v => ∀ x μ' H', SR K μ' O H' h' → Stp K μ H μ' H' → RW K μ' O H' v x → D.rt x H'
theorem Lands.step {K : PySem.W.Frag} {μ μ1 : Mu} {O : Addr → Prop} {H H1 : Hp} {h' : CH} {D : Ends} {fl : Fl} (t : Stp K μ H μ1 H1) (l : Lands K μ O H h' D fl) : Lands K μ1 O H1 h' D fl := by
  cases fl with
  | nx ρ => exact fun σ' μ' H' s u r => l σ' μ' H' s (t.trans u) r
  | bk ρ => exact fun σ' μ' H' s u r => l σ' μ' H' s (t.trans u) r
  | ct ρ => exact fun σ' μ' H' s u r => l σ' μ' H' s (t.trans u) r
  | rt ρ => exact fun σ' μ' H' s u r => l σ' μ' H' s (t.trans u) r
section
variable (X : Cx) (G : Nat → Option PV) (k : Ask) (W : Nat)
def SS (st : Stmt) (c : CS) : Prop := ∀ (μ : Mu) (O : Addr → Prop) (H : Hp) (h : CH) (σ : L2.St) (ρ : Env) (fl : Fl) (h' : CH) (D : Ends), SR X.K μ O H h → RE X.K μ O H ρ σ → evS G k W c ρ h = .ok fl h' →
  Lands X.K μ O H h' D fl → sS X st D σ H
def SSs (st : List Stmt) (c : List CS) : Prop := ∀ (μ : Mu) (O : Addr → Prop) (H : Hp) (h : CH) (σ : L2.St) (ρ : Env) (fl : Fl) (h' : CH) (D : Ends), SR X.K μ O H h → RE X.K μ O H ρ σ → evB G k W c ρ h = .ok fl h' →
  Lands X.K μ O H h' D fl → ssS X st D σ H
end
section
variable {X : Cx} {G : Nat → Option PV} {k : Ask} {W : Nat} {T : Tab} {C : CXT} {sc : Scope}
theorem sss_nil : SSs X G k W [] [] := by
  intro μ O H h σ ρ fl h' D s r ev l
  unfold evB at ev
  cases ev
  exact ssS.of pss_nil (l σ μ H s Stp.refl r)
theorem sss_doc {x : Str} {j : Nat} {p p' : Pos} {ss : List Stmt} {cs : List CS} (hs : SSs X G k W ss cs) : SSs X G k W (.Expr (.Constant (.str x) j p) p' :: ss) cs := by
  intro μ O H h σ ρ fl h' D s r ev l
  exact ssS.of (pss_cons ps_doc pss_S) (hs μ O H h σ ρ fl h' D s r ev l)
theorem sss_cons {st : Stmt} {ss : List Stmt} {c : CS} {cs : List CS} (h1 : SS X G k W st c) (h2 : SSs X G k W ss cs) : SSs X G k W (st :: ss) (c :: cs) := by
  intro μ O H h σ ρ fl h' D s r ev l
  unfold evB at ev
  obtain ⟨f1, h1', e1, ev⟩ := bind_ok ev
  refine ssS.of (pss_cons ps_S pss_S) ?_
  refine h1 μ O H h σ ρ f1 h1' _ s r e1 ?_
  cases f1 with
  | nx ρ1 => exact fun σ1 μ1 H1 s1 t1 r1 => h2 μ1 O H1 h1' σ1 ρ1 fl h' D s1 r1 ev (l.step t1)
  | rt v => cases ev; exact l
  | bk v => cases ev; exact l
  | ct v => cases ev; exact l
theorem sw_none {e : Expr} {l : Nat} {env : PySem.Env} {t : Option Expr} (h : noCmp e = true) : swapsWith e t l env = pure false := by
  cases e <;> first | rfl | cases h
theorem ss_exp {e : Expr} {c : CE} {pos : Pos} (hn : noCmp e = true) (he : SE X G k e c) : SS X G k W (.Expr e pos) (.exp c) := by
  intro μ O H h σ ρ fl h' D s r ev l
  unfold evS at ev
  obtain ⟨v, h1, e1, ev⟩ := bind_ok ev
  cases ev
  exact sS.of (ps_expr pe_S (sw_none hn)) (he μ O H h σ ρ v h' _ s r e1 fun x μ1 H1 s1 t1 r1 => l σ μ1 H1 s1 t1 (r.step t1))
theorem ss_retN {pos : Pos} : SS X G k W (.Return none pos) .retN := by
  intro μ O H h σ ρ fl h' D s r ev l
  unfold evS at ev
  cases ev
  exact sS.of ps_retN (l _ μ H s Stp.refl (.p .non))
theorem ss_ret {e : Expr} {c : CE} {pos : Pos} (he : SE X G k e c) : SS X G k W (.Return (some e) pos) (.ret c) := by
  intro μ O H h σ ρ fl h' D s r ev l
  unfold evS at ev
  obtain ⟨v, h1, e1, ev⟩ := bind_ok ev
  cases ev
  exact sS.of (ps_ret pe_S) (he μ O H h σ ρ v h' _ s r e1 l)
theorem ss_frz {e : Expr} {c : CE} {pos : Pos} (he : SE X G k e c) : SS X G k W (.Return (some e) pos) (.frz c) := by
  intro μ O H h σ ρ fl h' D s r ev l
  unfold evS at ev
  obtain ⟨v, h1, e1, ev⟩ := bind_ok ev
  refine sS.of (ps_ret pe_S) (he μ O H h σ ρ v h1 _ s r e1 fun x μ1 H1 s1 t1 r1 => ?_)
  split at ev
  · rename_i n
    split at ev
    · rename_i xs hx
      cases ev
      obtain ⟨a, ha, rp⟩ := s1.frozen hx
      cases r1 with
      | r hn hr =>
        rw [hr a ha]
        exact l _ (μ1.del n) H1 s1.del (t1.trans Stp.del) (.p rp)
    · cases ev
  · cases ev
    exact l _ μ1 H1 s1 t1 r1
theorem ss_if {c : Expr} {cc : CE} {a b : List Stmt} {ca cb : List CS} {pos : Pos} (hc : SB X G k c cc) (ha : SSs X G k W a ca) (hb : SSs X G k W b cb) : SS X G k W (.If c a b pos) (.ife cc ca cb) := by
  intro μ O H h σ ρ fl h' D s r ev l
  unfold evS at ev
  obtain ⟨v, h1, e1, ev⟩ := bind_ok ev
  refine sS.of (ps_if pt_S pss_S pss_S) ?_
  rcases brO_ok ev with ⟨z, ev⟩ | ⟨z, ev⟩
  · refine hc μ O H h σ ρ v true h1 _ s r e1 z fun μ1 H1 s1 t1 => ?_
    rw [if_pos rfl]
    exact ha μ1 O H1 h1 σ ρ fl h' D s1 (r.step t1) ev (l.step t1)
  · refine hc μ O H h σ ρ v false h1 _ s r e1 z fun μ1 H1 s1 t1 => ?_
    rw [if_neg Bool.false_ne_true]
    exact hb μ1 O H1 h1 σ ρ fl h' D s1 (r.step t1) ev (l.step t1)
theorem ss_rse {st : Stmt} {j : Nat} {es : List CE} : SS X G k W st (.rse j es) := by
  intro μ O H h σ ρ fl h' D s r ev l
  unfold evS at ev
  cases ev
theorem ss_pass {pos : Pos} : SS X G k W (.Pass pos) .pass := by
  intro μ O H h σ ρ fl h' D s r ev l
  unfold evS at ev
  cases ev
  exact sS.of ps_pass (l _ μ H s Stp.refl r)
theorem ss_brk {pos : Pos} : SS X G k W (.Break pos) .brk := by
  intro μ O H h σ ρ fl h' D s r ev l
  unfold evS at ev
  cases ev
  exact sS.of ps_break (l _ μ H s Stp.refl r)
theorem ss_cnt {pos : Pos} : SS X G k W (.Continue pos) .cnt := by
  intro μ O H h σ ρ fl h' D s r ev l
  unfold evS at ev
  cases ev
  exact sS.of ps_continue (l _ μ H s Stp.refl r)
theorem ss_whl {c : Expr} {cc : CE} {b : List Stmt} {cb : List CS} {pos : Pos} (hX : SX T G k C X sc) (hc : SB X G k c cc) (hb : SSs X G k W b cb) : SS X G k W (.While c b [] pos) (.whl cc cb) := by
  intro μ O H h σ ρ fl h' D s r ev l
  unfold evS at ev
  refine sS.of (ps_while hX.po pt_S pss_S) ?_
  refine ⟨fun m σ1 H1 => ∃ μ1 h1 ρ1, SR X.K μ1 O H1 h1 ∧ Stp X.K μ H μ1 H1 ∧ RE X.K μ1 O H1 ρ1 σ1 ∧ whlLoop (fun ρ1 h1 => (evE G k cc ρ1 h1).bind fun v h2 => Res.ofO h2 (truth h2 v)) (fun ρ1 h1 => evB G k W cb ρ1 h1) m ρ1 h1 = .ok fl h', ⟨W, μ, h, ρ, s, Stp.refl, r, ev⟩, ?_⟩
  rintro m σ1 H1 ⟨μ1, h1, ρ1, s1, t1, r1, ev1⟩
  cases m with
  | zero => unfold whlLoop at ev1; cases ev1
  | succ m =>
    unfold whlLoop at ev1
    obtain ⟨d, h2, e1, ev1⟩ := bind_ok ev1
    obtain ⟨v, h2', e2, e1⟩ := bind_ok e1
    have e3 : truth h2' v = some d ∧ h2' = h2 := by
      cases z : truth h2' v with
      | none => rw [z] at e1; cases e1
      | some c => rw [z] at e1; cases e1; exact ⟨rfl, rfl⟩
    obtain ⟨e3, rfl⟩ := e3
    refine hc μ1 O H1 h1 σ1 ρ1 v d h2' _ s1 r1 e2 e3 fun μ2 H2 s2 t2 => ?_
    cases d with
    | false =>
      rw [if_neg Bool.false_ne_true] at ev1 ⊢
      cases ev1
      exact l σ1 μ2 H2 s2 (t1.trans t2) (r1.step t2)
    | true =>
      rw [if_pos rfl] at ev1 ⊢
      obtain ⟨f1, h3, e4, ev1⟩ := bind_ok ev1
      refine ⟨fun σ3 H3 => ∃ μ3 h3 ρ3, SR X.K μ3 O H3 h3 ∧ Stp X.K μ H μ3 H3 ∧ RE X.K μ3 O H3 ρ3 σ3 ∧ whlLoop (fun ρ1 h1 => (evE G k cc ρ1 h1).bind fun v h2 => Res.ofO h2 (truth h2 v)) (fun ρ1 h1 => evB G k W cb ρ1 h1) m ρ3 h3 = .ok fl h', fun σ3 H3 w => ⟨m, Nat.lt_succ_self m, w⟩, ?_⟩
      refine hb μ2 O H2 h2' σ1 ρ1 f1 h3 _ s2 (r1.step t2) e4 ?_
      cases f1 with
      | nx ρ3 => exact fun σ3 μ3 H3 s3 t3 r3 => ⟨μ3, h3, ρ3, s3, (t1.trans t2).trans t3, r3, ev1⟩
      | ct ρ3 => exact fun σ3 μ3 H3 s3 t3 r3 => ⟨μ3, h3, ρ3, s3, (t1.trans t2).trans t3, r3, ev1⟩
      | bk ρ3 => cases ev1; exact fun σ3 μ3 H3 s3 t3 r3 => l σ3 μ3 H3 s3 ((t1.trans t2).trans t3) r3
      | rt v => cases ev1; exact fun σ3 μ3 H3 s3 t3 r3 => l σ3 μ3 H3 s3 ((t1.trans t2).trans t3) r3
theorem ss_for {tg it : Expr} {cg : CG} {ci : CI} {b : List Stmt} {cb : List CS} {pos : Pos} (hX : SX T G k C X sc) (hi : SI X G k tg it ci) (hf : ∀ x, foldedSetIterable it X.env x = pure x) (hg : SGt X tg cg) (hb : SSs X G k W b cb) : SS X G k W (.For tg it b [] pos) (.for_ cg ci cb) := by
  intro μ O H h σ ρ fl h' D s r ev l
  unfold evS at ev
  obtain ⟨⟨src, xs⟩, h1, e1, ev⟩ := bind_ok ev
  refine sS.of (ps_for hX.po hX.calm pi_S pg_S pss_S hf) ?_
  refine hi μ O H h σ ρ src xs h1 _ s r e1 fun J μ1 H1 s1 t1 itk => ?_
  generalize hf : (fun x ρ1 h2 => match putG cg x ρ1 with
    | none => (.err : Res Fl)
    | some ρ2 => evB G k W cb ρ2 h2) = f at ev
  refine ⟨fun i m σ2 H2 => m = xs.length - i ∧ i ≤ xs.length ∧ ∃ μ2 h2 ρ2, SR X.K μ2 O H2 h2 ∧ Stp X.K μ1 H1 μ2 H2 ∧ RE X.K μ2 O H2 ρ2 σ2 ∧ forLoop src f (xs.drop i) ρ2 h2 = .ok fl h', ⟨xs.length, rfl, Nat.zero_le _, μ1, h1, ρ, s1, Stp.refl, r.step t1, ev⟩, ?_⟩
  rintro i m σ2 H2 ⟨rfl, hle, μ2, h2, ρ2, s2, t2, r2, ev2⟩
  by_cases hi : i < xs.length
  · have hx : xs[i]? = some xs[i] := List.getElem?_eq_getElem hi
    rw [List.drop_eq_getElem_cons hi] at ev2
    unfold forLoop at ev2
    split at ev2
    · rename_i hst
      obtain ⟨f1, h3, e3, ev2⟩ := bind_ok ev2
      obtain ⟨go, yl⟩ := (itk μ2 O H2 h2 s2 t2 (fun _ z => .inl z) hst).1 i _ hx
      refine .inr ⟨go, fun σ3 H3 => (xs.length - (i + 1) = xs.length - (i + 1) ∧ i + 1 ≤ xs.length ∧ ∃ μ3 h3 ρ3, SR X.K μ3 O H3 h3 ∧ Stp X.K μ1 H1 μ3 H3 ∧ RE X.K μ3 O H3 ρ3 σ3 ∧ forLoop src f (xs.drop (i + 1)) ρ3 h3 = .ok fl h'), fun σ3 H3 w => ⟨xs.length - (i + 1), by omega, w⟩, fun x H3 hy => ?_⟩
      obtain ⟨s3, t3, r3⟩ := yl x H3 hy
      rw [← hf] at e3
      simp only at e3
      cases hp : putG cg xs[i] ρ2 with
      | none => rw [hp] at e3; cases e3
      | some ρ3 =>
        rw [hp] at e3
        refine hg μ2 O H3 σ2 ρ2 ρ3 _ _ _ (r2.step t3) hp r3 fun σ3 q3 _ => ?_
        refine hb μ2 O H3 h2 σ3 ρ3 f1 h3 _ s3 q3 e3 ?_
        have t13 := t2.trans t3
        cases f1 with
        | nx ρ4 => exact fun σ4 μ4 H4 s4 t4 r4 => ⟨rfl, hi, μ4, h3, ρ4, s4, t13.trans t4, r4, ev2⟩
        | ct ρ4 => exact fun σ4 μ4 H4 s4 t4 r4 => ⟨rfl, hi, μ4, h3, ρ4, s4, t13.trans t4, r4, ev2⟩
        | bk ρ4 => cases ev2; exact fun σ4 μ4 H4 s4 t4 r4 => l σ4 μ4 H4 s4 (t1.trans (t13.trans t4)) r4
        | rt v => cases ev2; exact fun σ4 μ4 H4 s4 t4 r4 => l σ4 μ4 H4 s4 (t1.trans (t13.trans t4)) r4
    · cases ev2
  · have hie : i = xs.length := by omega
    subst hie
    rw [List.drop_length] at ev2
    unfold forLoop at ev2
    split at ev2
    · rename_i hst
      cases ev2
      exact .inl ⟨(itk μ2 O H2 h' s2 t2 (fun _ z => .inl z) hst).2 _ (Nat.le_refl _), l σ2 μ2 H2 s2 (t1.trans t2) r2⟩
    · cases ev2
/-! ### assignments -/
theorem slot_lt {i : Nat} {ρ : Env} {v : VV} {ρ' : Env} (h : putW (.nm i) v ρ = some ρ') : ρ' = ρ.set i (some v) := by
  unfold putW at h
  simp only at h
  split at h
  · cases h; rfl
  · cases h
theorem ss_name {i : Nat} {x : Str} {e : Expr} {c : CE} {px pos : Pos} (hX : SX T G k C X sc) (hi : X.N[i]? = some x) (hk : sc.names.lookup x = some .local ∨ sc.names.lookup x = some .cell) (hn : noCmp e = true) (he : SE X G k e c) : SS X G k W (.Assign [.Name x px] e pos) (.asg (.nm i) c) := by
  intro μ O H h σ ρ fl h' D s r ev l
  unfold evS at ev
  obtain ⟨v, h1, e1, ev⟩ := bind_ok ev
  split at ev
  · rename_i ρ' hp
    have e2 := slot_lt hp
    subst e2
    cases ev
    refine sS.of (ps_set hX.nd hi (hk.imp (fun z => hX.kind _ _ z (by decide)) fun z => hX.kind _ _ z (by decide)) pe_S (sw_none hn) (hk.symm.imp (fun z => hX.fnc _ z) fun z => hX.kind _ _ z (by decide))) ?_
    exact he μ O H h σ ρ v h' _ s r e1 fun y μ1 H1 s1 t1 r1 => l _ μ1 H1 s1 t1 ((r.step t1).set r1 i)
  · cases ev
end
end Br

set_option autoImplicit false
set_option linter.all false
set_option maxRecDepth 100000
set_option maxHeartbeats 4000000
namespace Br
open PySem PySem.Spec PyProof.Rows L2
section
variable {X : Cx} {G : Nat → Option PV} {k : Ask} {W : Nat} {T : Tab} {C : CXT} {sc : Scope}
/-- a value's reading and a name -/
theorem ss_nameT {i : Nat} {st : Stmt} {t : TE} {c : CE} (he : SEt X G k t c) (hp : PS X st (tAsg t (gName i))) : SS X G k W st (.asg (.nm i) c) := by
  intro μ O H h σ ρ fl h' D s r ev l
  unfold evS at ev
  obtain ⟨v, h1, e1, ev⟩ := bind_ok ev
  split at ev
  · rename_i ρ' hq
    have e2 := slot_lt hq
    subst e2
    cases ev
    exact sS.of hp (he μ O H h σ ρ v h' _ s r e1 fun y μ1 H1 s1 t1 r1 => l _ μ1 H1 s1 t1 ((r.step t1).set r1 i))
  · cases ev
theorem swap_t {ts : List Expr} {kt : Nat} {tp : Pos} {e : Expr} {env : PySem.Env} (h : noTup e = true) : swappedStores [.Tuple ts kt tp] e env = pure none := by
  cases e <;> first | rfl | cases h
theorem swap_s {a i : Expr} {tp : Pos} {e : Expr} {env : PySem.Env} : swappedStores [.Subscript a i tp] e env = pure none := by
  cases e <;> rfl
theorem swapS_t {ts : List Expr} {kt : Nat} {tp : Pos} {e : Expr} {l : Nat} {env : PySem.Env} : swapsWithSole [.Tuple ts kt tp] e l env = pure false := by
  cases e <;> rfl
theorem swapS_s {a i : Expr} {tp : Pos} {e : Expr} {l : Nat} {env : PySem.Env} : swapsWithSole [.Subscript a i tp] e l env = pure false := by
  cases e <;> rfl
theorem pif {α : Type} {c : Bool} {a b : Sem α} {x : α} (ha : a = pure x) (hb : b = pure x) : (if c = true then a else b) = pure x := by
  cases c
  · rw [if_neg Bool.false_ne_true]; exact hb
  · rw [if_pos rfl]; exact ha
theorem swap_f {ts es : List Expr} {kt k2 : Nat} {tp tp2 : Pos} {env : PySem.Env} (h : es.all (foldedForSure 8) = true) : swappedStores [.Tuple ts kt tp] (.Tuple es k2 tp2) env = pure none := by
  unfold swappedStores
  simp only [h]
  show (if _ = true then pure none else _) = _
  refine pif rfl ?_
  show (if _ = true then pure none else _) = _
  refine pif rfl ?_
  show (if _ = true then pure none else _) = _
  exact pif rfl rfl
theorem swap_l {ts es : List Expr} {kt k2 : Nat} {tp tp2 : Pos} {env : PySem.Env} (h : 3 < ts.length) : swappedStores [.Tuple ts kt tp] (.Tuple es k2 tp2) env = pure none := by
  unfold swappedStores
  have e : (!(ts.length == 2 || ts.length == 3)) = true := by
    rw [beq_eq_false_iff_ne.mpr (by omega), beq_eq_false_iff_ne.mpr (by omega)]; rfl
  simp only [e]
  rfl
theorem ss_tup {ts : List Expr} {kt : Nat} {tp : Pos} {e : Expr} {c : CE} {cgs : List CG} {pos : Pos} (hw : swappedStores [.Tuple ts kt tp] e X.env = pure none) (he : SE X G k e c) (hg : SGt X (.Tuple ts kt tp) (.tp cgs)) : SS X G k W (.Assign [.Tuple ts kt tp] e pos) (.asg (.tp cgs) c) := by
  intro μ O H h σ ρ fl h' D s r ev l
  unfold evS at ev
  obtain ⟨v, h1, e1, ev⟩ := bind_ok ev
  split at ev
  · rename_i ρ' hq
    cases ev
    refine sS.of (ps_asg pe_S pg_S swapS_t hw) ?_
    refine he μ O H h σ ρ v h' _ s r e1 fun y μ1 H1 s1 t1 r1 => ?_
    cases v with
    | p v =>
      cases r1 with
      | p r1 => exact hg μ1 O H1 σ ρ ρ' v y _ (r.step t1) hq r1 fun σ' r' _ => l σ' μ1 H1 s1 t1 r'
    | _ => cases hq
  · cases ev
theorem ss_setI {o i e : Expr} {co ci c : CE} {tp pos : Pos} (ho : SE X G k o co) (hi : SE X G k i ci) (he : SE X G k e c)
    (ha : ∀ v, assign (.Subscript o i tp) X.env v = (do
      let ov ← holding [v] (eval o X.env)
      let iv ← holding [v, ov] (eval i X.env)
      standAt tp
      holding [v, ov, iv] (setItem ov iv v)
      release [v, ov, iv] [])) : SS X G k W (.Assign [.Subscript o i tp] e pos) (.setI co ci c) := by
  intro μ O H h σ ρ fl h' D s r ev l
  unfold evS at ev
  obtain ⟨v, h1, e1, ev⟩ := bind_ok ev
  obtain ⟨ov, h2, e2, ev⟩ := bind_ok ev
  obtain ⟨iv, h3, e3, ev⟩ := bind_ok ev
  cases ov with
  | r n =>
    cases iv with
    | p jv =>
      cases jv with
      | int j =>
        cases v with
        | p x =>
          simp only at ev
          split at ev
          · rename_i xs hx
            split at ev
            · rename_i m hm
              cases ev
              refine sS.of (ps_asg pe_S (pg_sub pe_S pe_S set_list ha) swapS_s swap_s) ?_
              refine he μ O H h σ ρ _ h1 _ s r e1 fun y μ1 H1 s1 t1 r1 => ?_
              refine ho μ1 O H1 h1 σ ρ _ h2 _ s1 (r.step t1) e2 fun z μ2 H2 s2 t2 r2 => ?_
              refine hi μ2 O H2 h2 σ ρ _ h3 _ s2 ((r.step t1).step t2) e3 fun u μ3 H3 s3 t3 r3 => ?_
              obtain ⟨a, vs, ea, eb, rp⟩ := s3.cell n xs hx
              cases r1 with
              | p r1 =>
                cases r3 with
                | p r3 =>
                  cases r3
                  cases r2.step t3 with
                  | r hn hr =>
                    rw [hr a ea]
                    refine ⟨a, vs, j, m, rfl, rfl, eb, ?_, ?_⟩
                    · rw [rp.length, ← ixN_eq]; exact hm
                    · exact l σ μ3 _ (s3.write ea (((r1.step t2).step t3 |> fun q => rp.set q m))) (((t1.trans t2).trans t3).trans (Stp.write ea)) ((((r.step t1).step t2).step t3).step (Stp.write ea))
            · cases ev
          · cases ev
        | _ => cases ev
      | _ => cases ev
    | _ => cases ev
  | _ => cases ev
end
end Br

set_option autoImplicit false
set_option linter.all false
set_option maxRecDepth 100000
set_option maxHeartbeats 4000000
namespace Br
open PySem PySem.Spec PyProof.Rows L2
theorem swap_p2 {x y : Str} {px py tp tp2 : Pos} {kt k2 : Nat} {a b : Expr} {env : PySem.Env} (hb : env.blockKind = .function) (hx : env.kindOf x = some .local) (hy : env.kindOf y = some .local) (hl : (py.line == px.line) = true) (hne : (y == x) = false)
    (hn : noStar a = true) (hn2 : noStar b = true) (h1 : [a, b].all (foldedForSure 8) = false) (h2 : [a, b].all (constantsAlone 8) = false) :
    swappedStores [.Tuple [.Name x px, .Name y py] kt tp] (.Tuple [a, b] k2 tp2) env = pure (some [x, y]) := by
  unfold swappedStores
  have e1 : ∀ (f : Expr → Bool), (∀ e, noStar e = true → f e = false) → [a, b].any f = false := fun f hf => by
    simp only [List.any_cons, List.any_nil, hf a hn, hf b hn2, Bool.or_self]
  simp only [hb, h1, h2, Expr.pos, List.filterMap_cons, List.filterMap_nil, hx, hy, hl, List.head?_cons, Option.map_some, Option.getD_some, beq_self_eq_true, Bool.and_self, if_true, List.length_cons, List.length_nil]
  have e2 : [x, y].eraseDups = [x, y] := by simp [List.eraseDups, List.eraseDupsBy, List.eraseDupsBy.loop, hne]
  rw [e2, e1]
  · rfl
  · intro e he
    cases e <;> first | rfl | cases he
theorem swap_p3 {x y z : Str} {px py pz tp tp2 : Pos} {kt k2 : Nat} {a b c : Expr} {env : PySem.Env} (hb : env.blockKind = .function) (hx : env.kindOf x = some .local) (hy : env.kindOf y = some .local) (hz : env.kindOf z = some .local) (hl : (py.line == px.line) = true) (hl2 : (pz.line == px.line) = true) (hne : (y == x) = false) (hne2 : (z == x) = false) (hne3 : (z == y) = false)
    (hn : noStar a = true) (hn2 : noStar b = true) (hn3 : noStar c = true) (h1 : [a, b, c].all (foldedForSure 8) = false) (h2 : [a, b, c].all (constantsAlone 8) = false) :
    swappedStores [.Tuple [.Name x px, .Name y py, .Name z pz] kt tp] (.Tuple [a, b, c] k2 tp2) env = pure (some [x, y, z]) := by
  unfold swappedStores
  have e1 : ∀ (f : Expr → Bool), (∀ e, noStar e = true → f e = false) → [a, b, c].any f = false := fun f hf => by
    simp only [List.any_cons, List.any_nil, hf a hn, hf b hn2, hf c hn3, Bool.or_self]
  simp only [hb, h1, h2, Expr.pos, List.filterMap_cons, List.filterMap_nil, hx, hy, hz, hl, hl2, List.head?_cons, Option.map_some, Option.getD_some, beq_self_eq_true, Bool.and_self, if_true, List.length_cons, List.length_nil]
  have e2 : [x, y, z].eraseDups = [x, y, z] := by simp [List.eraseDups, List.eraseDupsBy, List.eraseDupsBy.loop, hne, hne2, hne3]
  rw [e2, e1]
  · rfl
  · intro e he
    cases e <;> first | rfl | cases he
section
variable {X : Cx} {G : Nat → Option PV} {k : Ask} {W : Nat} {T : Tab} {C : CXT} {sc : Scope}
theorem ss_par2 {x y : Str} {i j : Nat} {px py tp tp2 pos : Pos} {kt k2 : Nat} {a b : Expr} {cs : List CE} (hX : SX T G k C X sc) (hb : X.env.scope.kind = .function) (hi : X.N[i]? = some x) (hj : X.N[j]? = some y) (hij : i ≠ j) (hx : sc.names.lookup x = some .local) (hy : sc.names.lookup y = some .local)
    (hl : (py.line == px.line) = true) (hn : noStar a = true) (hn2 : noStar b = true) (h1 : [a, b].all (foldedForSure 8) = false) (h2 : [a, b].all (constantsAlone 8) = false) (hs : SEs X G k [a, b] cs) :
    SS X G k W (.Assign [.Tuple [.Name x px, .Name y py] kt tp] (.Tuple [a, b] k2 tp2) pos) (.par [i, j] cs) := by
  intro μ O H h σ ρ fl h' D s r ev l
  have kx := hX.kind _ _ hx (by decide)
  have ky := hX.kind _ _ hy (by decide)
  have hne : (y == x) = false := by
    rw [beq_eq_false_iff_ne]
    intro z
    subst z
    exact hij ((List.getElem?_inj (by
      by_cases q : i < X.N.length
      · exact q
      · rw [List.getElem?_eq_none (by omega)] at hi; cases hi) hX.nd).mp (hi.trans hj.symm))
  have hbk : X.env.blockKind = .function := by unfold PySem.Env.blockKind; rw [hb]; rfl
  refine sS.of (ps_par hX.calm hX.nd hi hj hij kx ky pa_S (swap_p2 hbk kx ky hl hne hn hn2 h1 h2)) ?_
  unfold evS at ev
  obtain ⟨vs, h1', e1, ev⟩ := bind_ok ev
  split at ev
  · rename_i ρ' hq
    cases ev
    refine hs μ O H h σ ρ vs h' _ s r e1 fun xs μ1 H1 s1 t1 r1 => ?_
    unfold setAll at hq
    cases r1 with
    | nil => cases hq
    | cons r1 rs =>
      simp only at hq
      split at hq
      · unfold setAll at hq
        cases rs with
        | nil => cases hq
        | cons r2 rs =>
          simp only at hq
          split at hq
          · unfold setAll at hq
            cases rs with
            | nil => 
              cases hq
              exact ⟨_, _, rfl, l _ μ1 H1 s1 t1 (((r.step t1).set r1 i).set r2 j)⟩
            | cons _ _ => cases hq
          · cases hq
      · cases hq
  · cases ev
theorem ss_par3 {x y z : Str} {i j m : Nat} {px py pz tp tp2 pos : Pos} {kt k2 : Nat} {a b c : Expr} {cs : List CE} (hX : SX T G k C X sc) (hb : X.env.scope.kind = .function) (hi : X.N[i]? = some x) (hj : X.N[j]? = some y) (hm : X.N[m]? = some z) (hij : i ≠ j) (him : i ≠ m) (hjm : j ≠ m) (hx : sc.names.lookup x = some .local) (hy : sc.names.lookup y = some .local) (hz : sc.names.lookup z = some .local)
    (hl : (py.line == px.line) = true) (hl2 : (pz.line == px.line) = true) (hn : noStar a = true) (hn2 : noStar b = true) (hn3 : noStar c = true) (h1 : [a, b, c].all (foldedForSure 8) = false) (h2 : [a, b, c].all (constantsAlone 8) = false) (hs : SEs X G k [a, b, c] cs) :
    SS X G k W (.Assign [.Tuple [.Name x px, .Name y py, .Name z pz] kt tp] (.Tuple [a, b, c] k2 tp2) pos) (.par [i, j, m] cs) := by
  intro μ O H h σ ρ fl h' D s r ev l
  have kx := hX.kind _ _ hx (by decide)
  have ky := hX.kind _ _ hy (by decide)
  have kz := hX.kind _ _ hz (by decide)
  have hne : ∀ {i j : Nat} {x y : Str}, X.N[i]? = some x → X.N[j]? = some y → i ≠ j → (y == x) = false := fun {i j x y} hi hj hij => by
    rw [beq_eq_false_iff_ne]
    intro z
    subst z
    exact hij ((List.getElem?_inj (by
      by_cases q : i < X.N.length
      · exact q
      · rw [List.getElem?_eq_none (by omega)] at hi; cases hi) hX.nd).mp (hi.trans hj.symm))
  have hbk : X.env.blockKind = .function := by unfold PySem.Env.blockKind; rw [hb]; rfl
  refine sS.of (ps_par3 hX.calm hX.nd hi hj hm hij him hjm kx ky kz pa_S (swap_p3 hbk kx ky kz hl hl2 (hne hi hj hij) (hne hi hm him) (hne hj hm hjm) hn hn2 hn3 h1 h2)) ?_
  unfold evS at ev
  obtain ⟨vs, h1', e1, ev⟩ := bind_ok ev
  split at ev
  · rename_i ρ' hq
    cases ev
    refine hs μ O H h σ ρ vs h' _ s r e1 fun xs μ1 H1 s1 t1 r1 => ?_
    unfold setAll at hq
    cases r1 with
    | nil => cases hq
    | cons r1 rs =>
      simp only at hq
      split at hq
      · unfold setAll at hq
        cases rs with
        | nil => cases hq
        | cons r2 rs =>
          simp only at hq
          split at hq
          · unfold setAll at hq
            cases rs with
            | nil => cases hq
            | cons r3 rs =>
              simp only at hq
              split at hq
              · unfold setAll at hq
                cases rs with
                | nil =>
                  cases hq
                  exact ⟨_, _, _, rfl, l _ μ1 H1 s1 t1 ((((r.step t1).set r1 i).set r2 j).set r3 m)⟩
                | cons _ _ => cases hq
              · cases hq
          · cases hq
      · cases hq
  · cases ev
theorem lt_of_some {α : Type} {l : List α} {i : Nat} {x : α} (h : l[i]? = some x) : i < l.length := by
  by_cases q : i < l.length
  · exact q
  · rw [List.getElem?_eq_none (by omega)] at h; cases h
theorem parC_star {N : List Str} {sc : Scope} : ∀ {ts : List Expr} {is : List Nat}, parC N sc ts = some is → ∀ e ∈ ts, noStar e = true
  | [], _, _, e, he => by cases he
  | t :: ts, is, h, e, he => by
    unfold parC at h
    split at h
    · rename_i heq; cases heq
    · rename_i x p r heq
      cases heq
      split at h
      · obtain ⟨i, h1, h⟩ := Option.bind_eq_some_iff.mp h
        obtain ⟨js, h2, h⟩ := Option.map_eq_some_iff.mp h
        rcases List.mem_cons.mp he with z | z
        · rw [z]; rfl
        · exact parC_star h2 e z
      · cases h
    · cases h
theorem parC_len {N : List Str} {sc : Scope} : ∀ {ts : List Expr} {is : List Nat}, parC N sc ts = some is → is.length = ts.length
  | [], _, h => by unfold parC at h; cases h; rfl
  | t :: ts, is, h => by
    unfold parC at h
    split at h
    · rename_i heq; cases heq
    · rename_i x p r heq
      cases heq
      split at h
      · obtain ⟨i, h1, h⟩ := Option.bind_eq_some_iff.mp h
        obtain ⟨js, h2, h⟩ := Option.map_eq_some_iff.mp h
        rw [← h, List.length_cons, List.length_cons, parC_len h2]
      · cases h
    · cases h
theorem gs_parC (hX : SX T G k C X sc) {μ : Mu} {O : Addr → Prop} {H : Hp} : ∀ {ts : List Expr} {is : List Nat} {vs : List VV} {xs : List V} {ρ ρ' : Env} {σ : L2.St} {Q : L2.St → Hp → Prop}, parC X.N sc ts = some is → setAll is vs ρ = some ρ' → RWs X.K μ O H vs xs → RE X.K μ O H ρ σ →
    (∀ σ', RE X.K μ O H ρ' σ' → Q σ' H) → gsS X ts xs σ H Q
  | [], is, vs, xs, ρ, ρ', σ, Q, h, e, rv, r, q => by
    unfold parC at h; cases h
    cases rv with
    | nil => unfold setAll at e; cases e; exact gsS.of pgs_nil ⟨rfl, q σ r⟩
    | cons _ _ => unfold setAll at e; cases e
  | t :: ts, is, vs, xs, ρ, ρ', σ, Q, h, e, rv, r, q => by
    have hn := parC_star h t List.mem_cons_self
    unfold parC at h
    split at h
    · rename_i heq; cases heq
    · rename_i x p r' heq
      cases heq
      split at h
      · rename_i hk
        obtain ⟨i, h1, h⟩ := Option.bind_eq_some_iff.mp h
        obtain ⟨js, h2, rfl⟩ := Option.map_eq_some_iff.mp h
        cases rv with
        | nil => unfold setAll at e; cases e
        | cons r1 rs =>
          unfold setAll at e
          split at e
          · refine gsS.of (pgs_cons pg_S pgs_S (by rw [each_cons hn]; rfl)) ⟨_, _, rfl, ?_⟩
            have hl : sc.names.lookup x = some .local ∨ sc.names.lookup x = some .cell := by
              rcases Bool.or_eq_true_iff.mp hk with z | z
              · exact .inl (of_decide_eq_true z)
              · exact .inr (of_decide_eq_true z)
            have hl' : Loc X.env.scope x := hl.elim (fun z => .inl (hX.kind x _ z (by decide))) fun z => .inr (hX.kind x _ z (by decide))
            refine gS.of (pg_name hX.nd (slot_of h1) hl' ?_) ?_
            · rcases hl with z | z
              · exact .inr (hX.kind x _ z (by decide))
              · exact .inl (hX.fnc x z)
            · exact gs_parC hX h2 e rs (r.set r1 i) q
          · cases e
      · cases h
    · cases h
theorem filterMap_lt {α β : Type} {f : α → Option β} : ∀ {l : List α}, (∃ x ∈ l, f x = none) → (l.filterMap f).length < l.length
  | [], h => by obtain ⟨x, h, _⟩ := h; cases h
  | a :: l, h => by
    rw [List.filterMap_cons]
    have hle := List.length_filterMap_le f l
    split
    · rw [List.length_cons]; omega
    · rename_i b hb
      obtain ⟨x, hx, e⟩ := h
      rcases List.mem_cons.mp hx with z | z
      · rw [z, hb] at e; cases e
      · have := filterMap_lt ⟨x, z, e⟩
        rw [List.length_cons, List.length_cons]; omega
theorem swap_c {ts es : List Expr} {kt k2 : Nat} {tp tp2 : Pos} (hX : SX T G k C X sc) (h : hasCell sc ts = true) : swappedStores [.Tuple ts kt tp] (.Tuple es k2 tp2) X.env = pure none := by
  unfold swappedStores
  dsimp only
  refine pif rfl ?_
  refine pif rfl ?_
  have key : (ts.filterMap fun
      | .Name id pos => if X.env.kindOf id == some .local && pos.line == ((ts.head?.map (·.pos.line)).getD 0) then some id else none
      | _ => none).length < ts.length := by
    refine filterMap_lt ?_
    obtain ⟨t, ht, e⟩ := List.any_eq_true.mp h
    refine ⟨t, ht, ?_⟩
    split at e
    · rename_i x p
      have k1 := hX.kind x _ (of_decide_eq_true e) (by decide)
      have k2 : X.env.kindOf x = some .cell := k1
      simp only [k2]
      rfl
    · cases e
  refine if_pos ?_
  rw [Bool.or_eq_true]
  left
  rw [bne_iff_ne]
  exact Nat.ne_of_lt key
theorem ss_parC {ts es : List Expr} {is : List Nat} {cs : List CE} {kt k2 : Nat} {tp tp2 pos : Pos} (hX : SX T G k C X sc) (hc : hasCell sc ts = true) (hp : parC X.N sc ts = some is) (hl : es.length = ts.length) (hb : es.length ≤ 1000) (hs : SEs X G k es cs) :
    SS X G k W (.Assign [.Tuple ts kt tp] (.Tuple es k2 tp2) pos) (.par is cs) := by
  intro μ O H h σ ρ fl h' D s r ev l
  refine sS.of (ps_asg (pe_tup pa_S) (pg_tup (n := ts.length) hX.calm pgs_S each_len (each_nostar (parC_star hp))) swapS_t (swap_c hX hc)) ?_
  unfold evS at ev
  obtain ⟨vs, h1', e1, ev⟩ := bind_ok ev
  split at ev
  · rename_i ρ' hq
    cases ev
    refine hs μ O H h σ ρ vs h' _ s r e1 fun xs μ1 H1 s1 t1 r1 => ?_
    have hvl : ∀ {is : List Nat} {vs : List VV} {xs : List V} {ρ ρ' : Env}, setAll is vs ρ = some ρ' → RWs X.K μ1 O H1 vs xs → xs.length = is.length := by
      intro is
      induction is with
      | nil => intro vs xs ρ ρ' e r; cases r with
        | nil => rfl
        | cons _ _ => unfold setAll at e; cases e
      | cons i is ih => intro vs xs ρ ρ' e r; cases r with
        | nil => unfold setAll at e; cases e
        | cons r rs =>
          unfold setAll at e
          split at e
          · rw [List.length_cons, List.length_cons, ih e rs]
          · cases e
    have hxl : xs.length = ts.length := (hvl hq r1).trans (parC_len hp)
    refine ⟨by rw [hxl, ← hl, sizeLine_eq]; omega, fun p np => ?_⟩
    have s2 : SR X.K μ1 O (upd H1 p (.tup xs)) h' := s1.new np
    refine ⟨p, xs, rfl, .of upd_same, hxl, ?_⟩
    have t2 : Stp X.K μ1 H1 μ1 (upd H1 p (.tup xs)) := Stp.new np
    exact gs_parC hX hp hq (r1.step t2) ((r.step t1).step t2) fun σ' r' => l σ' μ1 _ s2 (t1.trans t2) r'
  · cases ev
end
end Br

set_option autoImplicit false
set_option linter.all false
set_option maxRecDepth 100000
set_option maxHeartbeats 4000000
namespace Br
open PySem PySem.Spec PyProof.Rows L2
section
variable {G : Nat → Option PV} {k : Ask} {W : Nat} {T : Tab} {C : CXT}
theorem parOf_one {N : List Str} {sc : Scope} {ln : Nat} {ts : List Expr} {is : List Nat} (h : parOf N sc ln ts = some is) (hl : ts ≠ []) : ∃ x p r i js, ts = .Name x p :: r ∧ is = i :: js ∧ N[i]? = some x ∧ sc.names.lookup x = some .local ∧ (p.line == ln) = true ∧ parOf N sc ln r = some js := by
  unfold parOf at h
  split at h
  · exact absurd rfl hl
  · rename_i x p r
    split at h
    · rename_i hc
      simp only [Bool.and_eq_true] at hc
      obtain ⟨i, h1, h⟩ := Option.bind_eq_some_iff.mp h
      obtain ⟨js, h2, h⟩ := Option.map_eq_some_iff.mp h
      exact ⟨x, p, r, i, js, rfl, h.symm, slot_of h1, of_decide_eq_true hc.1, hc.2, h2⟩
    · cases h
  · cases h
theorem len_two {α : Type} {l : List α} (h : l.length = 2) : ∃ a b, l = [a, b] := by
  match l, h with
  | [a, b], _ => exact ⟨a, b, rfl⟩
theorem len_three {α : Type} {l : List α} (h : l.length = 3) : ∃ a b c, l = [a, b, c] := by
  match l, h with
  | [a, b, c], _ => exact ⟨a, b, c, rfl⟩
theorem parOf_nil {N : List Str} {sc : Scope} {ln : Nat} {is : List Nat} (h : parOf N sc ln [] = some is) : is = [] := by
  unfold parOf at h; cases h; rfl
theorem assign_sub {o i : Expr} {tp : Pos} {env : PySem.Env} {v : Value} (hn : noSlc i = true) : assign (.Subscript o i tp) env v = (do
      let ov ← holding [v] (eval o env)
      let iv ← holding [v, ov] (eval i env)
      standAt tp
      holding [v, ov, iv] (setItem ov iv v)
      release [v, ov, iv] []) := by
  cases i <;> first | rfl | cases hn
/-- a name gets a new list, on one line -/
theorem ss_cmpA {X : Cx} {sc : Scope} {n i : Nat} {x : Str} {px pos spos : Pos} {elt : Expr} {gs : List Comprehension} {scope : Scope} {c : CE} (hX : SX T G k C X sc) (hf : X.env.scope.kind = .function) (hi : X.N[i]? = some x) (hx : sc.names.lookup x = some .local)
    (hl : (px.line == pos.line) = true) (ha : (scope.names.any fun (n, k) => n == x && (k == .local || k == .cell)) = false) (h : sE T X.N n sc (.ListComp elt gs scope pos) = some c) : SS X G k W (.Assign [.Name x px] (.ListComp elt gs scope pos) spos) (.asg (.nm i) c) := by
  cases n with
  | zero => unfold sE at h; cases h
  | succ n =>
    have pe := pen (T := T) (G := G) (k := k) (C := C) n
    have kx := hX.kind _ _ hx (by decide)
    unfold sE at h
    split at h
    all_goals first | (cases h; done) | (rename_i heq; cases heq; done) | skip
    rename_i heq
    cases heq
    obtain ⟨ci, h1, h⟩ := Option.bind_eq_some_iff.mp h
    obtain ⟨cg, h2, h⟩ := Option.bind_eq_some_iff.mp h
    obtain ⟨cc, h3, h⟩ := Option.bind_eq_some_iff.mp h
    obtain ⟨ce, h4, h⟩ := Option.bind_eq_some_iff.mp h
    obtain ⟨own, h5, h⟩ := Option.bind_eq_some_iff.mp h
    split at h
    · rename_i hc
      simp only [Bool.and_eq_true] at hc
      cases h
      obtain ⟨a1, a2⟩ := pe.i X sc hX _ _ _ h1
      have hz : ∀ i ∈ cg.slots, i ∈ own.map (·.2) := fun i hi => List.contains_iff_mem.mp (List.all_eq_true.mp hc.2 i hi)
      exact ss_nameT ((sl_comp a1 (fun s H A cl fp => (sg_ok (hX.blk _ s H A cl fp) n h2).1) (fun s H A cl fp => pe.f _ _ (hX.blk _ s H A cl fp) _ _ h3) (fun s H A cl fp => (pe.e _ _ (hX.blk _ s H A cl fp) _ _ h4).1) hz).thw)
        (ps_cmp' hX hi kx (sw_true hf kx hl ha) (hX.blkOk hc.1) a2)
    · cases h
structure PSn (T : Tab) (G : Nat → Option PV) (k : Ask) (W : Nat) (C : CXT) (n : Nat) : Prop where
  s : ∀ (X : Cx) (sc : Scope), SX T G k C X sc → X.env.scope.kind = .function → ∀ st c, sSt T X.N n sc st = some c → SS X G k W st c
  b : ∀ (X : Cx) (sc : Scope), SX T G k C X sc → X.env.scope.kind = .function → ∀ st c, sBl T X.N n sc st = some c → SSs X G k W st c
theorem psn : ∀ n, PSn T G k W C n
  | 0 => ⟨(fun X sc hX hf st c h => by unfold sSt at h; cases h), (fun X sc hX hf st c h => by unfold sBl at h; cases h)⟩
  | n + 1 => by
    have ih := psn n
    have pe := pen (T := T) (G := G) (k := k) (C := C) n
    refine ⟨fun X sc hX hf st c h => ?_, fun X sc hX hf st c h => ?_⟩
    · have ie := pe.e X sc hX
      have star : ∀ e c, sE T X.N n sc e = some c → noStar e = true := fun e c h => (ie e c h).2.2
      have se : ∀ e c, sE T X.N n sc e = some c → SE X G k e c := fun e c h => (ie e c h).1
      have sb : ∀ e c, sE T X.N n sc e = some c → SB X G k e c := fun e c h => (ie e c h).2.1
      have sB := ih.b X sc hX hf
      unfold sSt at h
      split at h
      · split at h
        · rename_i hn
          obtain ⟨c', h1, rfl⟩ := Option.map_eq_some_iff.mp h
          exact ss_exp hn (se _ _ h1)
        · cases h
      · cases h; exact ss_retN
      · obtain ⟨c', h1, rfl⟩ := Option.map_eq_some_iff.mp h
        split
        · exact ss_frz (se _ _ h1)
        · exact ss_ret (se _ _ h1)
      · obtain ⟨c', h1, h⟩ := Option.bind_eq_some_iff.mp h
        obtain ⟨a', h2, h⟩ := Option.bind_eq_some_iff.mp h
        obtain ⟨b', h3, rfl⟩ := Option.map_eq_some_iff.mp h
        exact ss_if (sb _ _ h1) (sB _ _ h2) (sB _ _ h3)
      · obtain ⟨ci, h1, h⟩ := Option.bind_eq_some_iff.mp h
        obtain ⟨g, h2, h⟩ := Option.bind_eq_some_iff.mp h
        obtain ⟨b', h3, rfl⟩ := Option.map_eq_some_iff.mp h
        obtain ⟨a1, a2⟩ := pe.i X sc hX _ _ _ h1
        exact ss_for hX a1 a2 (sg_ok hX n h2).1 (sB _ _ h3)
      · obtain ⟨c', h1, h⟩ := Option.bind_eq_some_iff.mp h
        obtain ⟨b', h3, rfl⟩ := Option.map_eq_some_iff.mp h
        exact ss_whl hX (se _ _ h1 |> fun _ => sb _ _ h1) (sB _ _ h3)
      · cases h; exact ss_rse
      · cases h; exact ss_pass
      · cases h; exact ss_brk
      · cases h; exact ss_cnt
      · split at h
        · rename_i hn
          split at h
          · rename_i hk
            obtain ⟨i, h1, h⟩ := Option.bind_eq_some_iff.mp h
            obtain ⟨c', h2, rfl⟩ := Option.map_eq_some_iff.mp h
            refine ss_name hX (slot_of h1) ?_ hn (se _ _ h2)
            rcases Bool.or_eq_true_iff.mp hk with z | z
            · exact .inl (of_decide_eq_true z)
            · exact .inr (of_decide_eq_true z)
          · cases h
        · unfold sCmpAsg at h
          split at h
          · split at h
            · rename_i hc
              simp only [Bool.and_eq_true, Bool.not_eq_true'] at hc
              obtain ⟨i, h1, h⟩ := Option.bind_eq_some_iff.mp h
              obtain ⟨c', h2, rfl⟩ := Option.map_eq_some_iff.mp h
              exact ss_cmpA hX hf (slot_of h1) (of_decide_eq_true hc.1.1) hc.1.2 hc.2 h2
            · cases h
          · cases h
      · -- a tuple's display to several targets
        split at h
        · rename_i hq
          obtain ⟨c', h1, h⟩ := Option.bind_eq_some_iff.mp h
          obtain ⟨g, h2, rfl⟩ := Option.map_eq_some_iff.mp h
          obtain ⟨cgs, rfl⟩ : ∃ cgs, g = .tp cgs := by
            cases n with
            | zero => unfold sG at h2; cases h2
            | succ n =>
              unfold sG at h2
              obtain ⟨cgs, _, e⟩ := Option.map_eq_some_iff.mp h2
              exact ⟨cgs, e.symm⟩
          refine ss_tup ?_ (se _ _ h1) (sg_ok hX n h2).1
          rcases Bool.or_eq_true_iff.mp hq with z | z
          · exact swap_f z
          · exact swap_l (of_decide_eq_true z)
        · rename_i hq
          split at h
          · rename_i hcl
            obtain ⟨is, h1, h⟩ := Option.bind_eq_some_iff.mp h
            obtain ⟨cs, h2, h⟩ := Option.bind_eq_some_iff.mp h
            split at h
            · rename_i hc
              cases h
              simp only [Bool.and_eq_true, beq_iff_eq] at hc
              exact ss_parC hX hcl h1 hc.1.2 (of_decide_eq_true hc.2) (ses_of star se h2)
            · cases h
          split at h
          · cases h
          · rename_i hq2
            obtain ⟨is, h1, h⟩ := Option.bind_eq_some_iff.mp h
            obtain ⟨cs, h2, h⟩ := Option.bind_eq_some_iff.mp h
            split at h
            · rename_i hc
              cases h
              have hst := mapE_star star h2
              have hes := ses_of star se h2
              have hq' := Bool.eq_false_iff.mpr fun z => hq (Bool.or_eq_true_iff.mpr (.inl z))
              have hq2' := Bool.eq_false_iff.mpr hq2
              simp only [Bool.and_eq_true, Bool.or_eq_true, beq_iff_eq] at hc
              obtain ⟨⟨hd, hl⟩, hlen⟩ := hc
              rcases hlen with h2' | h3'
              · obtain ⟨x, px, r, i, js, rfl, rfl, n1, l1, p1, h1⟩ := parOf_one h1 (by intro z; rw [z] at h2'; cases h2')
                obtain ⟨y, py, r, j, js, rfl, rfl, n2, l2, p2, h1⟩ := parOf_one h1 (by intro z; rw [z] at h2'; cases h2')
                cases r with
                | cons _ _ => cases h2'
                | nil =>
                  cases parOf_nil h1
                  obtain ⟨a, b, rfl⟩ := len_two hl
                  refine ss_par2 hX hf n1 n2 ?_ l1 l2 p2 (hst a (by simp)) (hst b (by simp)) hq' hq2' hes
                  intro z
                  subst z
                  simp [noDup] at hd
              · obtain ⟨x, px, r, i, js, rfl, rfl, n1, l1, p1, h1⟩ := parOf_one h1 (by intro z; rw [z] at h3'; cases h3')
                obtain ⟨y, py, r, j, js, rfl, rfl, n2, l2, p2, h1⟩ := parOf_one h1 (by intro z; rw [z] at h3'; cases h3')
                obtain ⟨z, pz, r, m, js, rfl, rfl, n3, l3, p3, h1⟩ := parOf_one h1 (by intro z; rw [z] at h3'; cases h3')
                cases r with
                | cons _ _ => cases h3'
                | nil =>
                  cases parOf_nil h1
                  obtain ⟨a, b, c, rfl⟩ := len_three hl
                  refine ss_par3 hX hf n1 n2 n3 ?_ ?_ ?_ l1 l2 l3 p2 p3 (hst a (by simp)) (hst b (by simp)) (hst c (by simp)) hq' hq2' hes
                  · intro z; subst z; simp [noDup] at hd
                  · intro z; subst z; simp [noDup] at hd
                  · intro z; subst z; simp [noDup] at hd
            · cases h
      · split at h
        · rename_i hn
          obtain ⟨c', h1, h⟩ := Option.bind_eq_some_iff.mp h
          obtain ⟨g, h2, rfl⟩ := Option.map_eq_some_iff.mp h
          obtain ⟨cgs, rfl⟩ : ∃ cgs, g = .tp cgs := by
            cases n with
            | zero => unfold sG at h2; cases h2
            | succ n =>
              unfold sG at h2
              obtain ⟨cgs, _, e⟩ := Option.map_eq_some_iff.mp h2
              exact ⟨cgs, e.symm⟩
          exact ss_tup (swap_t hn) (se _ _ h1) (sg_ok hX n h2).1
        · cases h
      · split at h
        · rename_i hn
          obtain ⟨c', h1, h⟩ := Option.bind_eq_some_iff.mp h
          obtain ⟨o', h2, h⟩ := Option.bind_eq_some_iff.mp h
          obtain ⟨i', h3, rfl⟩ := Option.map_eq_some_iff.mp h
          refine ss_setI (se _ _ h2) (se _ _ h3) (se _ _ h1) fun v => ?_
          exact assign_sub hn
        · cases h
      · cases h
    · cases st with
      | nil => unfold sBl at h; cases h; exact sss_nil
      | cons st ss =>
        unfold sBl at h
        split at h
        · rename_i hd
          have z := ih.b X sc hX hf _ _ h
          unfold isDoc at hd
          split at hd
          · exact sss_doc z
          · cases hd
        · obtain ⟨c', h1, h⟩ := Option.bind_eq_some_iff.mp h
          obtain ⟨cs, h2, rfl⟩ := Option.map_eq_some_iff.mp h
          exact sss_cons (ih.s X sc hX hf _ _ h1) (ih.b X sc hX hf _ _ h2)
end
end Br

set_option autoImplicit false
set_option linter.all false
set_option maxRecDepth 100000
set_option maxHeartbeats 4000000
/-! Functions; the law's own head. -/
namespace Br
open PySem PySem.Spec PyProof.Rows L2

/-- a def of the text -/
structure Def where
  st : Stmt
  x : Str
  ps : List Str
  N : List Str
/-- what the text itself tells -/
structure DefOk (T : Tab) (P : Pg) (f : Nat) (d : Def) : Prop where
  sc : FnScope d.N d.ps (defScope d.st)
  bd : ∀ (kV doc pm : Value) (an : Option Addr) (cdv ct : Value) (us : List Value), us.length = d.ps.length → bindArgs (PySem.W.fnOf d.x d.x (defArgs d.st) (defBody d.st) (defScope d.st) .none kV doc pm an cdv ct) ⟨us, []⟩ = pure (d.ps.zip us)
  cf : ∃ (cf : CFun) (fuel : Nat), P.F f = some cf ∧ cf.np = d.ps.length ∧ cf.nl = d.N.length ∧ sBl T d.N fuel (defScope d.st) (defBody d.st) = some cf.body
/-- the module behind the top -/
structure Ms (T : Tab) (P : Pg) (D : Nat → Option Def) (K : PySem.W.Frag) (mg : Str → Option Value) : Prop where
  st : ∀ f d, D f = some d → DefOk T P f d
  dy : ∀ f d, D f = some d → ∃ a fd, mg d.x = some (.ref a) ∧ Fun K d.x d.x d.st a fd
  tb : ∀ x f, T.fns.lookup x = some f → ∃ d, D f = some d ∧ d.x = x
  glo : ∀ x g v, T.glo.lookup x = some g → P.G g = some v → ∃ u y, mg x = some u ∧ RelV y u ∧ ∀ μ O H h, SR K μ O H h → RP K H (μ.own O) v y
  bi : ∀ x, x ∈ biNames → mg x = none
theorem start_re {K : PySem.W.Frag} {μ : Mu} {O : Addr → Prop} {H : Hp} {N : List Str} {args : List VV} {vs : List V} (r : RWs K μ O H args vs) : RE K μ O H (startE N.length args) (L2.start N vs) := by
  have hl : ∀ {args : List VV} {vs : List V}, RWs K μ O H args vs → args.length = vs.length := by
    intro args vs r
    induction args generalizing vs with
    | nil => cases r; rfl
    | cons a as ih => cases r with | cons q t => rw [List.length_cons, List.length_cons, ih t]
  have hg : ∀ {args : List VV} {vs : List V}, RWs K μ O H args vs → ∀ (i : Nat) v, args[i]? = some v → ∃ x, vs[i]? = some x ∧ RW K μ O H v x := by
    intro args vs r
    induction args generalizing vs with
    | nil => intro i v e; simp at e
    | cons a as ih =>
      cases r with
      | cons q t =>
        intro i v e
        cases i with
        | zero => simp at e; subst e; exact ⟨_, rfl, q⟩
        | succ i => obtain ⟨x, e1, e2⟩ := ih t i v (by simpa using e); exact ⟨x, by simpa using e1, e2⟩
  have l := hl r
  unfold startE L2.start
  refine ⟨by simp [l], fun i v e => ?_⟩
  by_cases hi : i < args.length
  · rw [List.getElem?_append_left (by simpa using hi)] at e
    rw [List.getElem?_append_left (by simp; omega)]
    rw [List.getElem?_map] at e
    obtain ⟨w, e1, e2⟩ := Option.map_eq_some_iff.mp e
    cases e2
    obtain ⟨x, e3, e4⟩ := hg r i v e1
    exact ⟨x, by rw [List.getElem?_map, e3]; rfl, e4⟩
  · rw [List.getElem?_append_right (by simp; omega)] at e
    rw [List.getElem?_replicate] at e
    split at e <;> cases e
section
variable {Pr : Program} {w : World} {K : PySem.W.Frag} {mg : Str → Option Value} {base : Heap} {T : Tab} {P : Pg} {D : Nat → Option Def}
theorem pass00 {X : Cx} {E : XK} : Passes CX0 X E := fun _ _ _ _ _ _ _ h => h.elim
theorem callN_len : ∀ (n : Nat) {f : Nat} {d : Def} (o : DefOk T P f d) {args : List VV} {h h' : CH} {v : VV}, callN P n f args h = .ok v h' → args.length = d.ps.length
  | 0, _, _, _, _, _, _, _, e => by unfold callN at e; cases e
  | n + 1, f, d, o, args, h, h', v, e => by
    obtain ⟨cf, fuel, h1, h2, _, _⟩ := o.cf
    unfold callN at e
    rw [h1] at e
    simp only at e
    split at e
    · rename_i q; rw [q, h2]
    · cases e
theorem fns_ok (M : Ms T P D K mg) : ∀ (n f : Nat) (d : Def) (a : Addr) (fd : FuncData), D f = some d → Fun K d.x d.x d.st a fd → FnG Pr w K mg base CX0 n a fd d.ps (spC K (callN P n) f d.ps.length)
  | 0, f, d, a, fd, hd, F => by
    refine ⟨fun vs H Q E h => h.1, fun A outer s H args us vs Q E hr hg e0 bt rv h => ?_⟩
    obtain ⟨_, μ, O, h0, ar, v, h', _, _, e, _⟩ := h
    unfold callN at e
    cases e
  | n + 1, f, d, a, fd, hd, F => by
    have ih := fns_ok M n
    obtain ⟨oc, od, kV, doc, pm, an, cdv, ct, osl, rfl, lk, hcd⟩ := F.ex
    have O := M.st f d hd
    obtain ⟨cf, fuel, hF, hnp, hnl, hbody⟩ := O.cf
    refine fnG_of lk hcd O.sc (fun vs H Q E h => h.1) fun A outer s H vs Q E hr hg hsp => ?_
    obtain ⟨hlen, μ, Ow, h0, ar, v, h', s0, r0, e0, q⟩ := hsp
    have hX : SX T P.G (callN P n) CX0 (cxOf CX0 Pr w K mg base d.N d.x (defScope d.st) a cdv A outer s H E).nox (defScope d.st) := by
      refine ⟨O.sc.nd, rfl, hg, ?_, (fun x kd h _ => h), (fun x h => .inl h), (fun _ _ => rfl), M.glo, (fun x f' hf => ?_), M.bi, (fun _ _ => pass00), PassesOwn.never⟩
      · have := hr.un
        show (A.deeper _).units + 100 < cLine
        omega
      · obtain ⟨d', hd', rfl⟩ := M.tb x f' hf
        obtain ⟨a', fd', m', F'⟩ := M.dy f' d' hd'
        have O' := M.st f' d' hd'
        exact ⟨a', fd', n, d'.ps, d'.ps.length, m', F'.kp, ih f' d' a' fd' hd' F', F'.binds O'.bd, hr, fun args h v h' e => callN_len n O' e⟩
    unfold callN at e0
    rw [hF] at e0
    simp only at e0
    split at e0
    · have hb := (psn (T := T) (G := P.G) (k := callN P n) (W := P.W) (C := CX0) fuel).b _ _ hX O.sc.kind _ _ hbody
      rw [hnl] at e0
      have key : ∀ (fl : Fl) (h2 : CH), evB P.G (callN P n) P.W cf.body (startE d.N.length ar) h0 = .ok fl h2 → Lands K μ Ow H h2 { nx := fun _ H' => Q .non H', rt := Q } fl →
          ssS (cxOf CX0 Pr w K mg base d.N d.x (defScope d.st) a cdv A outer s H E) (defBody d.st) { nx := fun _ H' => Q .non H', rt := Q } (start d.N vs) H := fun fl h2 ev l => by
        refine ssS.of (PSs.nox pss_S) ?_
        exact hb μ Ow H h0 (start d.N vs) (startE d.N.length ar) fl h2 _ s0 (start_re r0) ev l
      cases er : evB P.G (callN P n) P.W cf.body (startE d.N.length ar) h0 with
      | err => rw [er] at e0; cases e0
      | exc x h2 => rw [er] at e0; cases e0
      | ok fl h2 =>
        rw [er] at e0
        have fin : ∀ (u : VV), finish cf.drop h0 u h2 = .ok v h' → ∀ (y : V) (μ' : Mu) (H' : Hp), SR K μ' Ow H' h2 → Stp K μ H μ' H' → RW K μ' Ow H' u y → Q y H' := by
          intro u e y μ' H' s' t' r'
          unfold finish at e
          split at e
          · split at e
            · cases e
              cases r' with
              | p r' =>
                have hle : h0.length ≤ h2.length := by rw [← s0.len, ← s'.len]; exact t'.le
                have z := t'.cut
                rw [s0.len] at z
                exact q y (μ'.cut h0.length) H' (s'.cut hle) z (.p r'.cut)
            · cases e
          · cases e
            exact q y μ' H' s' t' r'
        cases fl with
        | bk ρ => cases e0
        | ct ρ => cases e0
        | rt u => exact key _ _ er fun y μ' H' s' t' r' => fin u e0 y μ' H' s' t' r'
        | nx ρ => exact key _ _ er fun σ' μ' H' s' t' r' => fin (.p .non) e0 .non μ' H' s' t' (.p .non)
    · cases e0
end
end Br

set_option autoImplicit false
set_option linter.all false
set_option maxRecDepth 100000
set_option maxHeartbeats 4000000
namespace Br
open PySem PySem.Spec PyProof.Rows L2

/-- no cell yet -/
def mu0 : Mu := ⟨0, fun _ => none⟩
def own0 : Addr → Prop := fun _ => False
theorem sr0 {K : PySem.W.Frag} {H : Hp} : SR K mu0 own0 H [] :=
  ⟨rfl, (fun n a e => by cases e), (fun n m a e => by cases e), (fun n a e => by cases e), (fun a o => o.elim), (fun n xs e => by simp at e), (fun n a e => by cases e)⟩
theorem not_own0 {a : Addr} : ¬ mu0.own own0 a := by
  rintro (z | ⟨n, z⟩)
  · exact z
  · cases z
/-- what the law asks of the evaluator -/
def Law (P : Pg) (k f : Nat) : Prop := ∀ ns : List Int, ns.length ≤ 63 → ∃ h', callN P k f [.s ns] [] = .ok (.p (.bl true)) h'
theorem sp_law {K : PySem.W.Frag} {P : Pg} {k f : Nat} (L : Law P k f) {H : Hp} {a : Addr} {ns : List Int} (hl : ns.length ≤ 63) (hS : SqL K H a (ns.map V.int)) : spC K (callN P k) f 1 [.ref a] H (fun v _ => v = .bl true) fun _ _ _ => False := by
  obtain ⟨h', e⟩ := L ns hl
  refine ⟨rfl, mu0, own0, [], [.s ns], .p (.bl true), h', sr0, .cons (.s ?_) .nil, e, fun x μ' H' _ _ r => ?_⟩
  · rcases hS with z | z
    · exact .inl ⟨z, not_own0⟩
    · exact .inr z
  · cases r with | p r => cases r; rfl
section
variable {P : Program} {w : World} {K : PySem.W.Frag} {mg mb : Str → Option Value} {k : Nat} {fa a : Addr} {fd : FuncData} {x : Str} {sp : Sp} {s1 : Shared} {vs : List Value} {ns : List Int}
/-- the law's call, from an abstract heap that tracks at most the script -/
theorem head_of {H : Hp} (KX : K.In s1.heap) (hns : s1.heap.Ns mainGlobals mg) (hb : s1.heap.Ns builtinsNs mb) (hbb : ∀ y : Str, y ≠ "__name__" → mb y = bootBuiltins y) (hlim : s1.heap.NoLimit) (hg : s1.gens = #[])
    (ha : s1.heap.get? a = some { cls := .type "list", data := .seq vs.toArray }) (hr : Room k callerA)
    (F : ∀ base : Heap, K.In base → base.Ns mainGlobals mg → FnG P w K mg base CX0 k fa fd [x] sp) (hbind : ∀ (s : Shared) (u : Value), BindsTo s fd ⟨[u], []⟩ [(x, u)])
    (hO : Only H) (hok : HOk P w H s1.heap) (hA : ∀ b, H b ≠ none → b = a) (hK : H a ≠ none → K.lookup a = none) (hsp : sp [.ref a] H (fun v _ => v = .bl true) fun _ _ _ => False) :
    codeAny (model P w) callerA (.call (.ref fa) ⟨[.ref a], []⟩) (fun r s' => r = .ok (.ret (.bool true)) ∧ OldK s1.heap s'.heap ∧ s'.os = s1.os ∧ AllBare s'.gens) s1 := by
  have at_a : ∀ {b : Addr} {o : HO}, H b = some o → b = a := fun {b o} q => hA b (by rw [q]; exact Option.some_ne_none _)
  have free : ∀ {b : Addr} {o : Obj}, s1.heap.get? b = some o → (b = a → H a = none) → (hidT s1.heap H).get? b = some o := fun {b o} e n => hidT_get e (by
    cases q : H b with
    | none => rfl
    | some u =>
      have z := at_a q
      subst z
      rw [n rfl] at q; cases q)
  have nsx : ∀ {b : Addr} {m : Str → Option Value}, s1.heap.Ns b m → (hidT s1.heap H).Ns b m := by
    rintro b m ⟨o, es, ep, e, d, r⟩
    refine ⟨o, es, ep, free e fun z => ?_, d, r⟩
    subst z
    rw [ha] at e
    cases e
    exact absurd d (by intro y; cases y)
  have kin : K.In (hidT s1.heap H) := fun b o e => free (KX b o e) fun z => by
    subst z
    cases q : H b with
    | none => rfl
    | some u =>
      have := hK (by rw [q]; exact Option.some_ne_none _)
      rw [e] at this; cases this
  obtain ⟨mc, l1, l2⟩ := hlim
  have md : Mod K mg (hidT s1.heap H) := ⟨kin, nsx hns, ⟨mb, nsx hb, hbb⟩, ⟨mc, nsx l1, l2⟩⟩
  have nofr : ∀ {b : Addr}, b ∉ ([] : List Addr) := fun {b} z => by cases z
  have e0 : Env0 P w K mg (hidT s1.heap H) callerA [] s1 H := by
    refine ⟨rfl, md, fun b o e => of_hidT e, Nat.le_of_eq (hidT_size _ _), trivial, fun b z => (nofr z).elim, hok, .of_eq hg⟩
  have run := (F _ kin (nsx hns)).run callerA [] s1 H ⟨[.ref a], []⟩ [.ref a] [.ref a] _ _ hr rfl e0 (hbind s1 (.ref a)) (.cons rfl .nil) hsp
  refine codeAny_mono run fun r s' q => ?_
  match r, q with
  | .error _, q => exact False.elim q
  | .ok .next, q => exact False.elim q
  | .ok .brk, q => exact False.elim q
  | .ok .cont, q => exact False.elim q
  | .ok (.ret u), ⟨v, H', os, bare, un, hok', rv, ev⟩ =>
    have ev' : v = .bl true := ev
    subst ev'
    have eu : u = Value.bool true := rv
    refine ⟨by rw [eu], OldK.of_keep fun b o e => ?_, os, bare⟩
    rcases hO b with z | ⟨ob, xs, z⟩
    · exact un.keep b o e z nofr nofr
    · have y1 := (hok b _ z).1
      have y2 := (hok' b _ (un.frzs b ob _ z)).1
      rw [e] at y1
      cases y1
      exact y2
theorem head_script (KX : K.In s1.heap) (hns : s1.heap.Ns mainGlobals mg) (hb : s1.heap.Ns builtinsNs mb) (hbb : ∀ y : Str, y ≠ "__name__" → mb y = bootBuiltins y) (hlim : s1.heap.NoLimit) (hg : s1.gens = #[])
    (ha : s1.heap.get? a = some { cls := .type "list", data := .seq vs.toArray }) (hi : IntsAre vs ns) (hl : ns.length ≤ 63) (hr : Room k callerA)
    (F : ∀ base : Heap, K.In base → base.Ns mainGlobals mg → FnG P w K mg base CX0 k fa fd [x] sp) (hbind : ∀ (s : Shared) (u : Value), BindsTo s fd ⟨[u], []⟩ [(x, u)])
    (hsp : ∀ H : Hp, SqL K H a (ns.map V.int) → sp [.ref a] H (fun v _ => v = .bl true) fun _ _ _ => False) :
    codeAny (model P w) callerA (.call (.ref fa) ⟨[.ref a], []⟩) (fun r s' => r = .ok (.ret (.bool true)) ∧ OldK s1.heap s'.heap ∧ s'.os = s1.os ∧ AllBare s'.gens) s1 := by
  have rv := vals_ints hi
  have hl2 : ns.length ≤ sizeLine := Nat.le_trans hl (by decide)
  have lv : vs.length = ns.length := hi.length
  cases hk : K.lookup a with
  | some o =>
    have e := KX a o hk
    rw [ha] at e
    cases e
    have hS : SqL K (fun _ => none) a (ns.map V.int) := by
      refine .inr ⟨_, vs.toArray, _, hk, rfl, rfl, rfl, ?_, ?_⟩
      · rw [List.size_toArray, lv]; exact hl2
      · exact rv
    refine head_of (H := fun _ => none) KX hns hb hbb hlim hg ha hr F hbind (fun _ => .inl rfl) ?_ ?_ ?_ (hsp _ hS)
    · intro b u z; exact absurd z (by intro y; cases y)
    · intro b z; exact absurd rfl z
    · intro z; exact absurd rfl z
  | none =>
    let H1 : Hp := fun b => if b = a then some (.frz { cls := .type "list", data := .seq vs.toArray } (.lst (ns.map V.int))) else none
    have at1 : H1 a = some (.frz { cls := .type "list", data := .seq vs.toArray } (.lst (ns.map V.int))) := if_pos rfl
    have off : ∀ {b : Addr}, b ≠ a → H1 b = none := fun n => if_neg n
    refine head_of (H := H1) KX hns hb hbb hlim hg ha hr F hbind (fun b => ?_) (fun b u z => ?_) (fun b z => ?_) (fun _ => hk) (hsp _ (.inl (.inr ⟨_, at1⟩)))
    · by_cases e : b = a
      · subst e; exact .inr ⟨_, _, at1⟩
      · exact .inl (off e)
    · by_cases e : b = a
      · subst e
        rw [at1] at z
        cases z
        exact ⟨ha, by rw [List.length_map]; exact hl2, vs, _, rv, ha⟩
      · rw [off e] at z; cases z
    · by_cases e : b = a
      · exact e
      · exact absurd (off e) z
end
/-- the goal that the head of a row leaves -/
theorem br_walk {l : PySem.W.OpenLaw} {k f : Nat} {q : Program} {loose : List Str} {XP : (Str → Option Value) → Heap → Prop} {YP : World → Heap → Prop} {d : DefRec} {K : Params → PySem.W.Frag} {T : Tab} {P : Pg} {D : Nat → Option Def} {df : Def}
    (hn : l.most = some 63) (hdf : d.params.defaults = []) (hr : Room k callerA) (hY : ∀ (w : World) (h : Heap), YP w h → (K w.params).In h)
    (M : ∀ (w : World) (mg : Str → Option Value) (h : Heap), (K w.params).In h → h.Ns mainGlobals mg → Ms T P D (K w.params) mg)
    (hD : D f = some df) (hx : df.x = d.name) (hps : df.ps = [("script" : Str)]) (L : Law P k f) :
    PySem.W.WalkO q loose XP YP l.row.toRowW d [] (fun f vs => PySem.call f vs) := by
  refine Att.attach_call hn hdf fun w s0 s1 mg mb fa o pm cd doc a vs ns G Y ho hd hcd hmg hobj hints hlen hg => ?_
  have KX := hY w _ Y
  have m := M w mg _ KX G.T.g
  obtain ⟨a', fd, e, F⟩ := m.dy f df hD
  rw [hx, hmg] at e
  cases e
  have B := F.binds (m.st f df hD).bd
  refine head_script KX G.T.g G.T.b G.T.builtins G.T.nolimit hg hobj hints hlen hr (fun base _ _ => ?_) (fun s u => ?_) (fun H hS => ?_) (fd := fd) (x := ("script" : Str)) (sp := spC (K w.params) (callN P k) f 1)
  · have z := fns_ok (Pr := l.prog) (w := w) (base := base) m k f df fa fd hD F
    rw [hps] at z
    exact z
  · obtain ⟨oc, od, kV, doc', pm', an, cdv, ct, osl, rfl, lk, hc⟩ := F.ex
    have z := (m.st f df hD).bd kV doc' pm' an cdv ct [u] (by rw [hps]; rfl)
    rw [hps] at z
    exact .of_eq z
  · exact sp_law L hlen hS
end Br

set_option autoImplicit false
set_option linter.all false
set_option maxRecDepth 100000
set_option maxHeartbeats 4000000
/-! The module behind the top, from facts that the kernel finds. -/
namespace Br
open PySem PySem.Spec PyProof.Rows L2
def Fact (K : PySem.W.Frag) (d : Def) : Prop := ∃ (f : Addr) (oc : Value) (od : Option Addr) (kV doc pm : Value) (an : Option Addr) (cdv ct : Value) (osl : Array (Option Value)),
  PySem.W.nsIn K mainGlobals d.x = some (some (.ref f)) ∧ K.lookup f = some ⟨oc, od, .func (PySem.W.fnOf d.x d.x (defArgs d.st) (defBody d.st) (defScope d.st) .none kV doc pm an cdv ct), osl⟩ ∧ PySem.W.codeIn K cdv d.x = true ∧ PySem.W.keepIn K (.ref f) = true
theorem Fact.mk {K : PySem.W.Frag} {d : Def} {f : Addr} {oc : Value} {od : Option Addr} {kV doc pm : Value} {an : Option Addr} {cdv ct : Value} {osl : Array (Option Value)}
    (a : PySem.W.nsIn K mainGlobals d.x = some (some (.ref f))) (l : K.lookup f = some ⟨oc, od, .func (PySem.W.fnOf d.x d.x (defArgs d.st) (defBody d.st) (defScope d.st) .none kV doc pm an cdv ct), osl⟩) (c : PySem.W.codeIn K cdv d.x = true) (k : PySem.W.keepIn K (.ref f) = true) : Fact K d :=
  ⟨f, oc, od, kV, doc, pm, an, cdv, ct, osl, a, l, c, k⟩
def Facts (K : PySem.W.Frag) : List Def → Prop
  | [] => True
  | d :: r => Fact K d ∧ Facts K r
theorem Facts.at_ {K : PySem.W.Frag} : ∀ {l : List Def}, Facts K l → ∀ {j : Nat} {d : Def}, l[j]? = some d → Fact K d
  | [], _, j, d, e => by simp at e
  | a :: r, h, 0, d, e => by simp at e; subst e; exact h.1
  | a :: r, h, j + 1, d, e => Facts.at_ h.2 (j := j) (by simpa using e)
/-- a constant of the module -/
def GF (K : PySem.W.Frag) (mg : Str → Option Value) (x : Str) (v : PV) : Prop := ∃ u y, mg x = some u ∧ RelV y u ∧ ∀ μ O H h, SR K μ O H h → RP K H (μ.own O) v y
def GFs (K : PySem.W.Frag) (mg : Str → Option Value) (G : Nat → Option PV) : List (Str × Nat) → Prop
  | [] => True
  | p :: r => (∀ v, G p.2 = some v → GF K mg p.1 v) ∧ GFs K mg G r
theorem GFs.at_ {K : PySem.W.Frag} {mg : Str → Option Value} {G : Nat → Option PV} : ∀ {l : List (Str × Nat)}, GFs K mg G l → ∀ {x : Str} {g : Nat} {v : PV}, l.lookup x = some g → G g = some v → GF K mg x v
  | [], _, x, g, v, e, _ => by cases e
  | (y, j) :: r, h, x, g, v, e, e2 => by
    rw [List.lookup_cons] at e
    split at e
    · rename_i q
      cases e
      have := h.1 v e2
      rw [eq_of_beq q]; exact this
    · exact GFs.at_ h.2 e e2
def BIs (K : PySem.W.Frag) : List Str → Prop
  | [] => True
  | x :: r => PySem.W.nsIn K mainGlobals x = some none ∧ BIs K r
theorem BIs.at_ {K : PySem.W.Frag} : ∀ {l : List Str}, BIs K l → ∀ {x : Str}, x ∈ l → PySem.W.nsIn K mainGlobals x = some none
  | [], _, x, e => by cases e
  | y :: r, h, x, e => by
    rcases List.mem_cons.mp e with z | z
    · rw [z]; exact h.1
    · exact BIs.at_ h.2 z
def tabOk (fns : List (Str × Nat)) (ds : List Def) : Bool := fns.all fun p => match ds[p.2]? with
  | some d => d.x == p.1
  | none => false
theorem tab_at {ds : List Def} : ∀ {fns : List (Str × Nat)}, tabOk fns ds = true → ∀ {x : Str} {f : Nat}, fns.lookup x = some f → ∃ d, ds[f]? = some d ∧ d.x = x
  | [], _, x, f, e => by cases e
  | (y, j) :: r, h, x, f, e => by
    unfold tabOk at h
    rw [List.all_cons, Bool.and_eq_true] at h
    rw [List.lookup_cons] at e
    split at e
    · rename_i q
      cases e
      have h1 := h.1
      simp only at h1
      split at h1
      · rename_i d hd
        exact ⟨d, hd, (eq_of_beq h1).trans (eq_of_beq q).symm⟩
      · cases h1
    · exact tab_at h.2 e
section
variable {T : Tab} {P : Pg} {ds : List Def} {K : PySem.W.Frag} {mg : Str → Option Value} {h : Heap}
theorem gf_int {x : Str} {i : Int} {t : Nat} (X : K.In h) (G : h.Ns mainGlobals mg) (e : PySem.W.nsIn K mainGlobals x = some (some (.int i t))) : GF K mg x (.int i) :=
  ⟨_, .int i, PySem.W.mg_of X G e, ⟨t, rfl⟩, fun _ _ _ _ _ => .int i⟩
theorem ms_mk (X : K.In h) (G : h.Ns mainGlobals mg) (st : ∀ f d, ds[f]? = some d → DefOk T P f d) (ok : tabOk T.fns ds = true) (F : Facts K ds) (g : GFs K mg P.G T.glo) (b : BIs K biNames) : Ms T P (fun j => ds[j]?) K mg where
  st := st
  dy := fun f d e => by
    obtain ⟨f', oc, od, kV, doc, pm, an, cdv, ct, osl, a, l, c, k⟩ := F.at_ e
    exact ⟨f', _, PySem.W.mg_of X G a, fun_mk l c k⟩
  tb := fun x f e => tab_at ok e
  glo := fun x g' v e e2 => g.at_ e e2
  bi := fun x e => PySem.W.mg_none_of X G (b.at_ e)
end
end Br

set_option autoImplicit false
set_option linter.all false
set_option maxRecDepth 100000
set_option maxHeartbeats 2000000
/-! What the small programs compute: helpers that stand in many of the laws. -/
namespace Br
abbrev Cup (a b : Int) : Cell := .lst [.int a, .int b]
def CupOk (a b : Int) : Prop := 0 ≤ a ∧ 0 ≤ b ∧ b < 4294967296

def cIsWhole : CFun := ⟨3, 3, [(.ret (.and_ [(.isi (.var 0) [.int]), (.not_ (.isi (.var 0) [.bool])), (.cmp2 .le .le (.var 1) (.var 0) (.var 2))]))], true⟩
def cIsTuple : CFun := ⟨3, 3, [(.ret (.and_ [(.isi (.var 0) [.tuple]), (.cmp2 .le .le (.var 1) (.bi .len [(.var 0)]) (.var 2))]))], true⟩
def cCup : CFun := ⟨1, 2, [(.asg (.nm 1) (.bi .abs [(.idx (.bin .add (.bi .list [(.var 0)]) (.lst [(.cst (.int 0))])) (.cst (.int 0)))])), (.ret (.thaw (.lst [(.ife (.cmp .ge (.var 1) (.bin .pow (.cst (.int 10)) (.cst (.int 18)))) (.bin .fdiv (.var 1) (.cst (.int 113))) (.cst (.int 0))), (.bin .add (.bin .mod (.bi .int_ [(.bin .add (.bin .mul (.var 1) (.cst (.int 349))) (.cst (.int 3803)))]) (.cst (.int 2077503011))) (.cst (.int 227)))])))], false⟩
def cRoll : CFun := ⟨2, 4, [(.ife (.cmp .gt (.idx (.var 0) (.cst (.int 0))) (.cst (.int 0))) [(.asg (.nm 2) (.bin .mod (.bi .int_ [(.idx (.var 0) (.cst (.int 0)))]) (.var 1))), (.setI (.var 0) (.cst (.int 0)) (.bin .fdiv (.idx (.var 0) (.cst (.int 0))) (.var 1))), (.ret (.var 2))] []), (.setI (.var 0) (.cst (.int 1)) (.bin .mod (.bi .int_ [(.bin .add (.bin .mul (.idx (.var 0) (.cst (.int 1))) (.cst (.int 31151))) (.cst (.int 8101)))]) (.cst (.int 2147483237)))), (.asg (.nm 3) (.bin .mod (.bi .int_ [(.bin .mul (.idx (.var 0) (.cst (.int 1))) (.bin .add (.idx (.var 0) (.cst (.int 1))) (.cst (.int 283))))]) (.cst (.int 2147483587)))), (.ret (.bin .mod (.bi .int_ [(.bin .fdiv (.var 3) (.cst (.int 883)))]) (.var 1)))], true⟩
def cSome (fr : Nat) : CFun := ⟨2, 2, [(.ret (.idx (.var 1) (.call fr [(.var 0), (.bi .len [(.var 1)])])))], true⟩
def cContent (fr fs : Nat) : CFun := ⟨1, 2, [(.ret (.bi .tuple [(.comp [1] (.nm 1) (.rng [(.call fs [(.var 0), (.lst [(.cst (.int 0)), (.cst (.int 0)), (.cst (.int 1)), (.cst (.int 2)), (.cst (.int 3))])])]) none (.call fr [(.var 0), (.cst (.int 256))]))]))], true⟩
def cContents (fr fc : Nat) : CFun := ⟨2, 3, [(.ret (.bi .tuple [(.comp [2] (.nm 2) (.rng [(.bin .add (.cst (.int 1)) (.call fr [(.var 0), (.var 1)]))]) none (.call fc [(.var 0)]))]))], true⟩

/-! ### evaluation -/
@[simp] theorem ok_bind {α β : Type} {a : α} {h : CH} {f : α → CH → Res β} : (Res.ok a h).bind f = f a h := rfl
@[simp] theorem brO_t {α : Type} {a b : Res α} : brO (some true) a b = a := rfl
@[simp] theorem brO_f {α : Type} {a b : Res α} : brO (some false) a b = b := rfl
@[simp] theorem outP_s {h : CH} {x : PV} : outP h (some x) = .ok (.p x) h := rfl
@[simp] theorem outB_s {h : CH} {x : Bool} : outB h (some x) = .ok (.p (.bl x)) h := rfl
@[simp] theorem truth_b {h : CH} {x : Bool} : truth h (.p (.bl x)) = some x := rfl
@[simp] theorem brO_and {b c : Bool} {h : CH} : brO (some b) (.ok (.p (.bl c)) h) (.ok (.p (.bl false)) h) = (.ok (.p (.bl (b && c))) h : Res VV) := by cases b <;> rfl
@[simp] theorem brO_and' {b c : Bool} {h : CH} : brO (some b) (.ok (.p (.bl c)) h) (.ok (.p (.bl b)) h) = (.ok (.p (.bl (b && c))) h : Res VV) := by cases b <;> rfl
@[simp] theorem brO_or {b c : Bool} {h : CH} : brO (some b) (.ok (.p (.bl true)) h) (.ok (.p (.bl c)) h) = (.ok (.p (.bl (b || c))) h : Res VV) := by cases b <;> rfl
@[simp] theorem brO_or' {b c : Bool} {h : CH} : brO (some b) (.ok (.p (.bl b)) h) (.ok (.p (.bl c)) h) = (.ok (.p (.bl (b || c))) h : Res VV) := by cases b <;> rfl
@[simp] theorem ofO_s {α : Type} {h : CH} {x : α} : Res.ofO h (some x) = .ok x h := rfl
@[simp] theorem leave_rt {d : Bool} {h h' : CH} {v : VV} : leave d h (.ok (.rt v) h') = finish d h v h' := rfl
@[simp] theorem leave_nx {d : Bool} {h h' : CH} {ρ : Env} : leave d h (.ok (.nx ρ) h') = finish d h (.p .non) h' := rfl
@[simp] theorem finish_p {h h' : CH} {v : PV} : finish true h (.p v) h' = .ok (.p v) (h'.take h.length) := rfl

section
variable {G : Nat → Option PV} {k : Ask} {W : Nat} {ρ : Env} {h : CH}
@[simp] theorem ev_var {i : Nat} : evE G k (.var i) ρ h = (match ρ[i]? with | some (some v) => .ok v h | _ => .err) := rfl
@[simp] theorem ev_cst {v : PV} : evE G k (.cst v) ρ h = .ok (.p v) h := rfl
@[simp] theorem ev_glo {g : Nat} : evE G k (.glo g) ρ h = outP h (G g) := rfl
@[simp] theorem ev_tup {es : List CE} : evE G k (.tup es) ρ h = (evEs G k es ρ h).bind fun vs h1 => outP h1 ((pursOf vs).map .tup) := rfl
@[simp] theorem ev_lst {es : List CE} : evE G k (.lst es) ρ h = (evEs G k es ρ h).bind fun vs h1 => outP h1 ((pursOf vs).map .lst) := rfl
@[simp] theorem ev_thaw {e : CE} : evE G k (.thaw e) ρ h = (evE G k e ρ h).bind fun v h1 => match v with
    | .p (.lst xs) => .ok (.r h1.length) (h1 ++ [.lst xs])
    | _ => .err := rfl
@[simp] theorem ev_bin {op : BOp} {a b : CE} : evE G k (.bin op a b) ρ h = (evE G k a ρ h).bind fun v h1 => (evE G k b ρ h1).bind fun w h2 => outP h2 (binW h2 op v w) := rfl
@[simp] theorem ev_neg {a : CE} : evE G k (.neg a) ρ h = (evE G k a ρ h).bind fun v h1 => match v with
    | .p (.int i) => .ok (.p (.int (-i))) h1
    | _ => .err := rfl
@[simp] theorem ev_not {a : CE} : evE G k (.not_ a) ρ h = (evE G k a ρ h).bind fun v h1 => outB h1 ((truth h1 v).map (!·)) := rfl
@[simp] theorem ev_and1 {e : CE} : evE G k (.and_ [e]) ρ h = evE G k e ρ h := by
  show (evE G k e ρ h).bind (fun v h1 => .ok v h1) = _
  cases evE G k e ρ h <;> rfl
@[simp] theorem ev_and2 {e e' : CE} {es : List CE} : evE G k (.and_ (e :: e' :: es)) ρ h = (evE G k e ρ h).bind fun v h1 => brO (truth h1 v) (evE G k (.and_ (e' :: es)) ρ h1) (.ok v h1) := rfl
@[simp] theorem ev_or1 {e : CE} : evE G k (.or_ [e]) ρ h = evE G k e ρ h := by
  show (evE G k e ρ h).bind (fun v h1 => .ok v h1) = _
  cases evE G k e ρ h <;> rfl
@[simp] theorem ev_or2 {e e' : CE} {es : List CE} : evE G k (.or_ (e :: e' :: es)) ρ h = (evE G k e ρ h).bind fun v h1 => brO (truth h1 v) (.ok v h1) (evE G k (.or_ (e' :: es)) ρ h1) := rfl
@[simp] theorem ev_ife {c a b : CE} : evE G k (.ife c a b) ρ h = (evE G k c ρ h).bind fun v h1 => brO (truth h1 v) (evE G k a ρ h1) (evE G k b ρ h1) := rfl
@[simp] theorem ev_cmp {op : COp} {a b : CE} : evE G k (.cmp op a b) ρ h = (evE G k a ρ h).bind fun v h1 => (evE G k b ρ h1).bind fun w h2 => outB h2 (cmpW h2 op v w) := rfl
@[simp] theorem ev_cmp2 {op op' : COp} {a b c : CE} : evE G k (.cmp2 op op' a b c) ρ h = (evE G k a ρ h).bind fun v h1 => (evE G k b ρ h1).bind fun w h2 => brO (cmpW h2 op v w) ((evE G k c ρ h2).bind fun u h3 => outB h3 (cmpW h3 op' w u)) (.ok (.p (.bl false)) h2) := rfl
@[simp] theorem ev_idx {a i : CE} : evE G k (.idx a i) ρ h = (evE G k a ρ h).bind fun v h1 => (evE G k i ρ h1).bind fun w h2 => outP h2 (idxW h2 v w) := rfl
@[simp] theorem ev_slc {a : CE} {lo hi : Option CE} : evE G k (.slc a lo hi) ρ h = (evE G k a ρ h).bind fun v h1 => (evO G k lo ρ h1).bind fun l h2 => (evO G k hi ρ h2).bind fun u h3 => outP h3 (slcW h3 v l u) := rfl
@[simp] theorem ev_call {f : Nat} {es : List CE} : evE G k (.call f es) ρ h = (evEs G k es ρ h).bind fun vs h1 => k f vs h1 := rfl
@[simp] theorem ev_bi {b : Bi} {es : List CE} : evE G k (.bi b es) ρ h = (evEs G k es ρ h).bind fun vs h1 => outP h1 (biW h1 b vs) := rfl
@[simp] theorem ev_isi {e : CE} {ts : List Ty} : evE G k (.isi e ts) ρ h = (evE G k e ρ h).bind fun v h1 => outB h1 ((look h1 v).map fun x => ts.any (tyP x)) := rfl
@[simp] theorem ev_rpr {e : CE} : evE G k (.rpr e) ρ h = (evE G k e ρ h).bind fun v h1 => match look h1 v with
    | some x => if shownOk x then .ok (.t x) h1 else .err
    | none => .err := rfl
@[simp] theorem evs_nil : evEs G k [] ρ h = .ok [] h := rfl
@[simp] theorem evs_cons {e : CE} {es : List CE} : evEs G k (e :: es) ρ h = (evE G k e ρ h).bind fun v h1 => (evEs G k es ρ h1).bind fun vs h2 => .ok (v :: vs) h2 := rfl
@[simp] theorem evo_none : evO G k none ρ h = .ok none h := rfl
@[simp] theorem evo_some {e : CE} : evO G k (some e) ρ h = (evE G k e ρ h).bind fun v h1 => .ok (some v) h1 := rfl
@[simp] theorem evt_none : evT G k none ρ h = .ok true h := rfl
@[simp] theorem evt_some {e : CE} : evT G k (some e) ρ h = (evE G k e ρ h).bind fun v h1 => Res.ofO h1 (truth h1 v) := rfl
@[simp] theorem es_exp {e : CE} : evS G k W (.exp e) ρ h = (evE G k e ρ h).bind fun _ h1 => .ok (.nx ρ) h1 := rfl
@[simp] theorem es_asg {g : CG} {e : CE} : evS G k W (.asg g e) ρ h = (evE G k e ρ h).bind fun v h1 => match putW g v ρ with
    | some ρ' => .ok (.nx ρ') h1
    | none => .err := rfl
@[simp] theorem es_par {is : List Nat} {es : List CE} : evS G k W (.par is es) ρ h = (evEs G k es ρ h).bind fun vs h1 => match setAll is vs ρ with
    | some ρ' => .ok (.nx ρ') h1
    | none => .err := rfl
@[simp] theorem es_setI {o i e : CE} : evS G k W (.setI o i e) ρ h = (evE G k e ρ h).bind fun v h1 => (evE G k o ρ h1).bind fun ov h2 => (evE G k i ρ h2).bind fun iv h3 => match ov, iv, v with
    | .r n, .p (.int j), .p x => match h3[n]? with
      | some (.lst xs) => match ixN xs.length j with
        | some m => .ok (.nx ρ) (h3.set n (.lst (xs.set m x)))
        | none => .err
      | _ => .err
    | _, _, _ => .err := rfl
@[simp] theorem es_ret {e : CE} : evS G k W (.ret e) ρ h = (evE G k e ρ h).bind fun v h1 => .ok (.rt v) h1 := rfl
@[simp] theorem es_retN : evS G k W .retN ρ h = .ok (.rt (.p .non)) h := rfl
@[simp] theorem es_ife {c : CE} {a b : List CS} : evS G k W (.ife c a b) ρ h = (evE G k c ρ h).bind fun v h1 => brO (truth h1 v) (evB G k W a ρ h1) (evB G k W b ρ h1) := rfl
@[simp] theorem es_pass : evS G k W .pass ρ h = .ok (.nx ρ) h := rfl
@[simp] theorem es_brk : evS G k W .brk ρ h = .ok (.bk ρ) h := rfl
@[simp] theorem es_cnt : evS G k W .cnt ρ h = .ok (.ct ρ) h := rfl
@[simp] theorem eb_nil : evB G k W [] ρ h = .ok (.nx ρ) h := rfl
@[simp] theorem eb_cons {s : CS} {ss : List CS} : evB G k W (s :: ss) ρ h = (evS G k W s ρ h).bind fun fl h1 => match fl with
    | .nx ρ1 => evB G k W ss ρ1 h1
    | fl => .ok fl h1 := rfl
end
@[simp] theorem look_p {h : CH} {v : PV} : look h (.p v) = some v := rfl
@[simp] theorem purP_p {v : PV} : purP (.p v) = some v := rfl
@[simp] theorem purs_nil : pursOf [] = some [] := rfl
@[simp] theorem purs_cons {v : PV} {vs : List VV} : pursOf (.p v :: vs) = (pursOf vs).map (v :: ·) := rfl
@[simp] theorem putW_nm {i : Nat} {v : VV} {ρ : Env} : putW (.nm i) v ρ = if i < ρ.length then some (ρ.set i (some v)) else none := rfl
@[simp] theorem putW_tp {ts : List CG} {v : PV} {ρ : Env} : putW (.tp ts) (.p v) ρ = putG (.tp ts) v ρ := rfl
@[simp] theorem putG_nm {i : Nat} {v : PV} {ρ : Env} : putG (.nm i) v ρ = if i < ρ.length then some (ρ.set i (some (.p v))) else none := rfl
@[simp] theorem putG_tup {ts : List CG} {vs : List PV} {ρ : Env} : putG (.tp ts) (.tup vs) ρ = putGs ts vs ρ := rfl
@[simp] theorem putG_lst {ts : List CG} {vs : List PV} {ρ : Env} : putG (.tp ts) (.lst vs) ρ = putGs ts vs ρ := rfl
@[simp] theorem putGs_nil {ρ : Env} : putGs [] [] ρ = some ρ := rfl
@[simp] theorem putGs_cons {t : CG} {ts : List CG} {v : PV} {vs : List PV} {ρ : Env} : putGs (t :: ts) (v :: vs) ρ = (putG t v ρ).bind fun ρ' => putGs ts vs ρ' := rfl
theorem wipe_len0 (ρ : Env) : ∀ vs : List Nat, (wipe ρ vs).length = ρ.length
  | [] => rfl
  | v :: vs => by
    show ((wipe ρ vs).set v none).length = _
    rw [List.length_set, wipe_len0 ρ vs]

/-! ### plain -/
def isWhole (v : PV) (lo hi : Int) : Bool := match v with
  | .int i => decide (lo ≤ i) && decide (i ≤ hi)
  | _ => false
def isTup (v : PV) (lo hi : Int) : Bool := match v with
  | .tup xs => decide (lo ≤ (xs.length : Nat)) && decide (((xs.length : Nat) : Int) ≤ hi)
  | _ => false
theorem ge_lt {i j : Int} : (!decide (i < j)) = decide (j ≤ i) := by
  by_cases h : i < j
  · rw [decide_eq_true h, decide_eq_false (by omega)]; rfl
  · rw [decide_eq_false h, decide_eq_true (by omega)]; rfl
section
variable {P : Pg} {n f : Nat} {h : CH}
theorem is_whole_ok (hF : P.F f = some cIsWhole) (v : PV) (lo hi : Int) : callN P (n + 1) f [.p v, .p (.int lo), .p (.int hi)] h = .ok (.p (.bl (isWhole v lo hi))) h := by
  cases v <;> simp [callN, hF, cIsWhole, startE, tyP, cmpW, cmpD, cmpP, ltP, isWhole, ge_lt]
theorem is_tuple_ok (hF : P.F f = some cIsTuple) (v : PV) (lo hi : Int) : callN P (n + 1) f [.p v, .p (.int lo), .p (.int hi)] h = .ok (.p (.bl (isTup v lo hi))) h := by
  cases v <;> simp [callN, hF, cIsTuple, startE, tyP, cmpW, cmpD, cmpP, ltP, isTup, biW, lookAll, biP, lenP, ge_lt]
end

/-! ### walks -/
theorem mapLoop_pure {f : PV → CH → Res (Option PV)} {g : PV → Option PV} : ∀ {xs : List PV} {h : CH}, (∀ x ∈ xs, f x h = .ok (g x) h) → mapLoop none f xs h = .ok (xs.filterMap g) h
  | [], h, _ => rfl
  | x :: xs, h, hf => by
    unfold mapLoop
    rw [if_pos (by rfl), hf x List.mem_cons_self]
    show ((mapLoop none f xs h).bind fun ys h2 => _) = _
    rw [mapLoop_pure fun y hy => hf y (List.mem_cons_of_mem _ hy)]
    show Res.ok (match g x with | some y => y :: xs.filterMap g | none => xs.filterMap g) h = _
    rw [List.filterMap_cons]
    cases g x <;> rfl
theorem blsOf_map {p : PV → Bool} : ∀ xs : List PV, blsOf (xs.filterMap fun x => some (.bl (p x))) = some (xs.map p)
  | [] => rfl
  | x :: xs => by
    show (blsOf (xs.filterMap fun x => some (.bl (p x)))).map _ = _
    rw [blsOf_map xs]; rfl
theorem blsOf_map2 {p : PV → Bool} : ∀ xs : List PV, blsOf (xs.map fun x => .bl (p x)) = some (xs.map p)
  | [] => rfl
  | x :: xs => by
    show (blsOf (xs.map fun x => .bl (p x))).map _ = _
    rw [blsOf_map2 xs]; rfl
theorem all_id {p : PV → Bool} (xs : List PV) : (xs.map p).all id = xs.all p := by
  rw [List.all_map]; rfl
/-- what may come of a draw -/
def Gen (r : CH → Res VV) (Q : PV → Prop) : Prop := ∀ (a b : Int) (t : CH), CupOk a b → ∃ v a' b', CupOk a' b' ∧ Q v ∧ r (Cup a b :: t) = .ok (.p v) (Cup a' b' :: t)
theorem gen_map {f : PV → CH → Res (Option PV)} {Q : PV → Prop} : ∀ {xs : List PV}, (∀ x ∈ xs, ∀ (a b : Int) (t : CH), CupOk a b → ∃ y a' b', CupOk a' b' ∧ Q y ∧ f x (Cup a b :: t) = .ok (some y) (Cup a' b' :: t)) →
    ∀ (a b : Int) (t : CH), CupOk a b → ∃ ys a' b', CupOk a' b' ∧ (∀ y ∈ ys, Q y) ∧ ys.length = xs.length ∧ mapLoop none f xs (Cup a b :: t) = .ok ys (Cup a' b' :: t)
  | [], _, a, b, t, h => ⟨[], a, b, h, by simp, rfl, rfl⟩
  | x :: xs, hf, a, b, t, h => by
    obtain ⟨y, a1, b1, h1, q1, e1⟩ := hf x List.mem_cons_self a b t h
    obtain ⟨ys, a2, b2, h2, q2, l2, e2⟩ := gen_map (fun z hz => hf z (List.mem_cons_of_mem _ hz)) a1 b1 t h1
    refine ⟨y :: ys, a2, b2, h2, ?_, by rw [List.length_cons, List.length_cons, l2], ?_⟩
    · intro z hz
      rcases List.mem_cons.mp hz with e | e
      · rw [e]; exact q1
      · exact q2 z e
    · unfold mapLoop
      rw [if_pos (by rfl), e1]
      show ((mapLoop none f xs _).bind fun ys h2 => _) = _
      rw [e2]; rfl

/-! ### draws -/
section
variable {P : Pg} {n fr fs fc f : Nat}
/-- a number below m -/
def Below (m : Int) (v : PV) : Prop := ∃ r : Int, v = .int r ∧ 0 ≤ r ∧ r < m
theorem roll_ok (hF : P.F fr = some cRoll) {m : Int} (hm : 0 < m) (hm2 : m < 1073741824) : Gen (callN P (n + 1) fr [.r 0, .p (.int m)]) (Below m) := by
  intro a b t ⟨ha, hb, hb2⟩
  have e : ∀ x : Int, x % m = x % m := fun _ => rfl
  by_cases h0 : 0 < a
  · refine ⟨.int (a % m), a / m, b, ⟨Int.ediv_nonneg ha (by omega), hb, hb2⟩, ⟨_, rfl, Int.emod_nonneg _ (by omega), Int.emod_lt_of_pos _ hm⟩, ?_⟩
    simp [callN, hF, cRoll, startE, look, cmpW, cmpD, cmpP, ltP, idxW, idxP, atI, ixN, biW, biP, lookAll, binW, binP, h0, hm, hm2]
  · have ha0 : a = 0 := by omega
    have hb' : 0 ≤ (b * 31151 + 8101) % 2147483237 ∧ (b * 31151 + 8101) % 2147483237 < 2147483237 := ⟨Int.emod_nonneg _ (by decide), Int.emod_lt_of_pos _ (by decide)⟩
    refine ⟨.int ((((b * 31151 + 8101) % 2147483237) * ((b * 31151 + 8101) % 2147483237 + 283)) % 2147483587 / 883 % m), a, (b * 31151 + 8101) % 2147483237, ⟨ha, hb'.1, by omega⟩, ⟨_, rfl, Int.emod_nonneg _ (by omega), Int.emod_lt_of_pos _ hm⟩, ?_⟩
    have w1 : wideB ((b * 31151 + 8101) % 2147483237) = true := by
      unfold wideB
      refine decide_eq_true ?_
      omega
    have w2 : wideB 31151 = true := by decide
    simp [callN, hF, cRoll, startE, look, cmpW, cmpD, cmpP, ltP, idxW, idxP, atI, ixN, biW, biP, lookAll, binW, binP, h0, hm, mulOk, w1, w2]
theorem some_ok (hF : P.F fs = some (cSome fr)) (hR : P.F fr = some cRoll) {xs : List PV} (hx : xs ≠ []) (hl : xs.length < 1000000) : Gen (callN P (n + 2) fs [.r 0, .p (.lst xs)]) (· ∈ xs) := by
  intro a b t h
  have hp : 0 < xs.length := List.length_pos_iff.mpr hx
  obtain ⟨v, a', b', h', ⟨r, rfl, r0, r1⟩, e⟩ := roll_ok (n := n) hR (m := (xs.length : Nat)) (by omega) (by omega) a b t h
  obtain ⟨k, rfl⟩ := Int.eq_ofNat_of_zero_le r0
  have hk : k < xs.length := by omega
  refine ⟨xs[k], a', b', h', List.getElem_mem hk, ?_⟩
  unfold callN
  simp [hF, cSome, startE, look, biW, biP, lookAll, lenP, e, idxW, idxP, atI, ixN]
  have h1 : (k : Int) < (xs.length : Int) := by omega
  simp [hk]
end
end Br

set_option autoImplicit false
set_option linter.all false
set_option maxRecDepth 100000
set_option maxHeartbeats 2000000
namespace Br
section
variable {P : Pg} {G : Nat → Option PV} {k : Ask} {W n f : Nat} {h h1 h2 : CH} {ρ : Env}
/-! ### rules -/
theorem call_eq {cf : CFun} {args : List VV} (hF : P.F f = some cf) (hl : args.length = cf.np) : callN P (n + 1) f args h = leave cf.drop h (evB P.G (callN P n) P.W cf.body (startE cf.nl args) h) := by
  unfold callN
  rw [hF]
  simp [hl]
theorem ret_eq {e : CE} {v : VV} {d : Bool} (he : evE G k e ρ h1 = .ok v h2) : leave d h (evB G k W [.ret e] ρ h1) = finish d h v h2 := by
  unfold evB evS
  rw [he]; rfl
theorem tuple_eq {c : CE} {xs : List PV} (he : evE G k c ρ h = .ok (.p (.lst xs)) h1) : evE G k (.bi .tuple [c]) ρ h = .ok (.p (.tup xs)) h1 := by
  unfold evE evEs
  rw [he]
  simp [evEs, biW, lookAll, look, biP]
theorem all_eq {c : CE} {xs : List PV} {p : PV → Bool} (he : evE G k c ρ h = .ok (.p (.lst (xs.filterMap fun x => some (.bl (p x))))) h1) : evE G k (.bi .all [c]) ρ h = .ok (.p (.bl (xs.all p))) h1 := by
  unfold evE evEs
  rw [he]
  simp only [evEs, ok_bind, biW, lookAll, look, Option.bind_some, Option.map_some, biP, blsOf_map, all_id, outP_s]
theorem val_eq {e : CE} {v : PV} {xs : List PV} (he : evE G k e ρ h = .ok (.p v) h1) (hi : items h1 (.p v) = some xs) : evI G k (.val e) ρ h = .ok (none, xs) h1 := by
  unfold evI
  rw [he]
  show (match items h1 (.p v) with | some xs => Res.ok (srcOf (.p v) xs, xs) h1 | none => .err) = _
  rw [hi]
  cases v <;> rfl
theorem rng_eq {e : CE} {j : Int} (he : evE G k e ρ h = .ok (.p (.int j)) h1) (hj : -(2 ^ 62) ≤ j ∧ j < 2 ^ 62) : evI G k (.rng [e]) ρ h = .ok (none, rngL 0 j) h1 := by
  unfold evI evEs
  rw [he]
  simp only [evEs, ok_bind, pursOf, purP, Option.bind_some, Option.map_some, rangeOf, if_pos hj]
/-- a comprehension that draws nothing -/
theorem comp_eq {own : List Nat} {i : Nat} {it : CI} {c : Option CE} {elt : CE} {xs : List PV} {g : PV → Option PV} (hi : evI G k it ρ h = .ok (none, xs) h1) (hl : i < ρ.length) (hx : xs.length ≤ 1000000)
    (he : ∀ x ∈ xs, (∃ y, g x = some y ∧ evT G k c ((wipe ρ own).set i (some (.p x))) h1 = .ok true h1 ∧ evE G k elt ((wipe ρ own).set i (some (.p x))) h1 = .ok (.p y) h1) ∨ (g x = none ∧ evT G k c ((wipe ρ own).set i (some (.p x))) h1 = .ok false h1)) :
    evE G k (.comp own (.nm i) it c elt) ρ h = .ok (.p (.lst (xs.filterMap g))) h1 := by
  have wl : i < (wipe ρ own).length := by rw [wipe_len0]; exact hl
  unfold evE
  rw [hi]
  simp only [ok_bind]
  rw [mapLoop_pure (g := g)]
  · simp only [ok_bind, if_pos hx]
  · intro x m
    simp only [putG_nm, if_pos wl]
    rcases he x m with ⟨y, e1, e2, e3⟩ | ⟨e1, e2⟩
    · rw [e2]
      simp only [ok_bind, if_true]
      rw [e3, e1]; rfl
    · rw [e2, e1]; rfl
/-- .. that draws -/
theorem comp_gen {own : List Nat} {i : Nat} {it : CI} {elt : CE} {xs : List PV} {Q : PV → Prop} {a b a1 b1 : Int} {t : CH} (hi : evI G k it ρ (Cup a b :: t) = .ok (none, xs) (Cup a1 b1 :: t)) (hc : CupOk a1 b1) (hl : i < ρ.length) (hx : xs.length ≤ 1000000)
    (he : ∀ x ∈ xs, Gen (evE G k elt ((wipe ρ own).set i (some (.p x)))) Q) :
    ∃ ys a' b', CupOk a' b' ∧ (∀ y ∈ ys, Q y) ∧ ys.length = xs.length ∧ evE G k (.comp own (.nm i) it none elt) ρ (Cup a b :: t) = .ok (.p (.lst ys)) (Cup a' b' :: t) := by
  have wl : i < (wipe ρ own).length := by rw [wipe_len0]; exact hl
  have main : ∀ F : PV → CH → Res (Option PV), (∀ x ∈ xs, ∀ (a b : Int) (t : CH), CupOk a b → ∃ y a' b', CupOk a' b' ∧ Q y ∧ F x (Cup a b :: t) = .ok (some y) (Cup a' b' :: t)) →
      ∃ ys a' b', CupOk a' b' ∧ (∀ y ∈ ys, Q y) ∧ ys.length = xs.length ∧ ((mapLoop none F xs (Cup a1 b1 :: t)).bind fun ys h2 => if xs.length ≤ 1000000 then Res.ok (VV.p (.lst ys)) h2 else .err) = .ok (.p (.lst ys)) (Cup a' b' :: t) := fun F hF => by
    obtain ⟨ys, a', b', h', q, l, e⟩ := gen_map hF a1 b1 t hc
    exact ⟨ys, a', b', h', q, l, by rw [e]; simp only [ok_bind, if_pos hx]⟩
  unfold evE
  rw [hi]
  simp only [ok_bind]
  refine main _ fun x m a b t hc => ?_
  obtain ⟨v, a2, b2, h2, q2, e2⟩ := he x m a b t hc
  refine ⟨v, a2, b2, h2, q2, ?_⟩
  simp only [putG_nm, if_pos wl, evT, ok_bind, if_true]
  rw [e2]; rfl
end

/-! ### random contents -/
theorem rng_len (j : Int) : (rngL 0 j).length = j.toNat := by simp [rngL]
/-- a short content -/
def Cont (v : PV) : Prop := ∃ xs : List PV, v = .tup xs ∧ xs.length ≤ 3 ∧ ∀ y ∈ xs, Below 256 y
section
variable {P : Pg} {n fr fs fc ft : Nat}
theorem content_ok (hF : P.F fc = some (cContent fr fs)) (hS : P.F fs = some (cSome fr)) (hR : P.F fr = some cRoll) : Gen (callN P (n + 3) fc [.r 0]) Cont := by
  intro a b t hc
  rw [call_eq hF rfl]
  obtain ⟨v, a1, b1, h1, q1, e1⟩ := some_ok (P := P) (n := n) hS hR (xs := [.int 0, .int 0, .int 1, .int 2, .int 3]) (by simp) (by decide) a b t hc
  obtain ⟨j, rfl, hj⟩ : ∃ j : Int, v = .int j ∧ 0 ≤ j ∧ j ≤ 3 := by
    simp at q1
    rcases q1 with rfl | rfl | rfl | rfl | rfl <;> exact ⟨_, rfl, by decide, by decide⟩
  have hi : evI P.G (callN P (n + 2)) (.rng [(.call fs [(.var 0), (.lst [(.cst (.int 0)), (.cst (.int 0)), (.cst (.int 1)), (.cst (.int 2)), (.cst (.int 3))])])]) [some (.r 0), none] (Cup a b :: t) = .ok (none, rngL 0 j) (Cup a1 b1 :: t) := by
    refine rng_eq ?_ (by omega)
    simp [e1]
  obtain ⟨ys, a2, b2, h2, q2, l2, e2⟩ := comp_gen (own := [1]) (i := 1) (elt := .call fr [(.var 0), (.cst (.int 256))]) (Q := Below 256) hi h1 (by simp) (by rw [rng_len]; omega) (fun x _ a b t hc => by
    obtain ⟨w, a3, b3, h3, q3, e3⟩ := roll_ok (P := P) (n := n + 1) hR (m := 256) (by decide) (by decide) a b t hc
    exact ⟨w, a3, b3, h3, q3, by simp [e3, wipe]⟩)
  refine ⟨.tup ys, a2, b2, h2, ⟨ys, rfl, ?_, q2⟩, ?_⟩
  · rw [l2, rng_len]; omega
  · exact (ret_eq (tuple_eq e2)).trans (by simp [cContent])
theorem contents_ok {m : Int} (hF : P.F ft = some (cContents fr fc)) (hF2 : P.F fc = some (cContent fr fs)) (hS : P.F fs = some (cSome fr)) (hR : P.F fr = some cRoll) (hm : 0 < m) (hm2 : m < 100000) :
    Gen (callN P (n + 4) ft [.r 0, .p (.int m)]) (fun v => ∃ xs : List PV, v = .tup xs ∧ 1 ≤ xs.length ∧ (xs.length : Int) ≤ m ∧ ∀ y ∈ xs, Cont y) := by
  intro a b t hc
  rw [call_eq hF rfl]
  obtain ⟨v, a1, b1, h1, ⟨r, rfl, r0, r1⟩, e1⟩ := roll_ok (P := P) (n := n + 2) hR hm (by omega) a b t hc
  have hi : evI P.G (callN P (n + 3)) (.rng [(.bin .add (.cst (.int 1)) (.call fr [(.var 0), (.var 1)]))]) [some (.r 0), some (.p (.int m)), none] (Cup a b :: t) = .ok (none, rngL 0 (1 + r)) (Cup a1 b1 :: t) := by
    refine rng_eq ?_ (by omega)
    simp [e1, binW, binP]
  obtain ⟨ys, a2, b2, h2, q2, l2, e2⟩ := comp_gen (own := [2]) (i := 2) (elt := .call fc [(.var 0)]) (Q := Cont) hi h1 (by simp) (by rw [rng_len]; omega) (fun x _ a b t hc => by
    obtain ⟨w, a3, b3, h3, q3, e3⟩ := content_ok (P := P) (n := n) hF2 hS hR a b t hc
    exact ⟨w, a3, b3, h3, q3, by simp [e3, wipe]⟩)
  refine ⟨.tup ys, a2, b2, h2, ⟨ys, rfl, ?_, ?_, q2⟩, ?_⟩
  · rw [l2, rng_len]; omega
  · rw [l2, rng_len]; omega
  · exact (ret_eq (tuple_eq e2)).trans (by simp [cContents])
end
end Br

set_option autoImplicit false
set_option linter.all false
set_option maxRecDepth 100000
set_option maxHeartbeats 2000000
/-! Disks. -/
namespace Br
def cFitsContent (fw ft g : Nat) : CFun := ⟨1, 2, [(.ret (.and_ [(.call ft [(.var 0), (.cst (.int 0)), (.glo g)]), (.bi .all [(.comp [1] (.nm 1) (.val (.var 0)) none (.call fw [(.var 1), (.cst (.int 0)), (.cst (.int 255))]))])]))], true⟩
def cFitsContents (ft fc g : Nat) : CFun := ⟨1, 2, [(.ret (.and_ [(.call ft [(.var 0), (.cst (.int 1)), (.glo g)]), (.bi .all [(.comp [1] (.nm 1) (.val (.var 0)) none (.call fc [(.var 1)]))])]))], true⟩
def cFitsSlot (fw ft fc g : Nat) : CFun := ⟨1, 1, [(.ret (.and_ [(.call ft [(.var 0), (.cst (.int 2)), (.cst (.int 2))]), (.call fw [(.idx (.var 0) (.cst (.int 0))), (.cst (.int 0)), (.bin .sub (.glo g) (.cst (.int 1)))]), (.call fc [(.idx (.var 0) (.cst (.int 1)))])]))], true⟩
def cFitsMark (fw : Nat) : CFun := ⟨2, 2, [(.ret (.or_ [(.cmp .is_ (.var 1) (.cst .non)), (.call fw [(.var 1), (.cst (.int 1)), (.bi .len [(.var 0)])])]))], true⟩
def cFitsDisk (ft fs fm fcs g : Nat) : CFun := ⟨1, 2, [(.ife (.or_ [(.not_ (.call ft [(.var 0), (.cst (.int 3)), (.cst (.int 3))])), (.not_ (.call ft [(.idx (.var 0) (.cst (.int 1))), (.cst (.int 0)), (.glo g)]))]) [(.ret (.cst (.bl false)))] []), (.ife (.not_ (.bi .all [(.comp [1] (.nm 1) (.val (.idx (.var 0) (.cst (.int 1)))) none (.call fs [(.var 1)]))])) [(.ret (.cst (.bl false)))] []), (.ret (.and_ [(.call fm [(.idx (.var 0) (.cst (.int 1))), (.idx (.var 0) (.cst (.int 0)))]), (.call fcs [(.idx (.var 0) (.cst (.int 2)))])]))], true⟩
def cDisk (fr fc fcs : Nat) : CFun := ⟨1, 4, [(.asg (.nm 1) (.bi .tuple [(.comp [3] (.nm 3) (.rng [(.call fr [(.var 0), (.cst (.int 5))])]) none (.tup [(.call fr [(.var 0), (.cst (.int 6))]), (.call fc [(.var 0)])]))])), (.asg (.nm 2) (.ife (.and_ [(.cmp .ne (.var 1) (.tup [])), (.cmp .gt (.call fr [(.var 0), (.cst (.int 3))]) (.cst (.int 0)))]) (.bin .add (.cst (.int 1)) (.call fr [(.var 0), (.bi .len [(.var 1)])])) (.cst .non))), (.ret (.tup [(.var 2), (.var 1), (.call fcs [(.var 0), (.cst (.int 4))])]))], true⟩

def isContent : PV → Bool
  | .tup xs => decide (xs.length ≤ 512) && xs.all (isWhole · 0 255)
  | _ => false
def isContents : PV → Bool
  | .tup xs => decide (1 ≤ xs.length) && decide (xs.length ≤ 1000) && xs.all isContent
  | _ => false
def isSlot : PV → Bool
  | .tup [n, c] => isWhole n 0 999 && isContent c
  | _ => false
def isMark (l : Nat) (v : PV) : Bool := isNon v || isWhole v 1 (l : Nat)
def isDisk : PV → Bool
  | .tup [m, .tup l, c] => decide (l.length ≤ 1000) && l.all isSlot && (isMark l.length m && isContents c)
  | _ => false
section
variable {P : Pg} {n fw ft fc fs fm fcs fd g g2 g3 : Nat} {h : CH}
theorem isTup_n {v : PV} {m : Int} (e : isTup v m m = true) : ∃ xs : List PV, v = .tup xs ∧ (xs.length : Int) = m := by
  cases v <;> simp [isTup] at e
  rename_i xs
  exact ⟨xs, rfl, by omega⟩
theorem isTup_of {v : PV} {lo hi : Int} (e : isTup v lo hi = true) : ∃ xs : List PV, v = .tup xs ∧ lo ≤ (xs.length : Nat) ∧ ((xs.length : Nat) : Int) ≤ hi := by
  cases v <;> simp [isTup] at e
  exact ⟨_, rfl, e.1, e.2⟩
theorem fits_content_ok (hF : P.F fc = some (cFitsContent fw ft g)) (hw : P.F fw = some cIsWhole) (ht : P.F ft = some cIsTuple) (hg : P.G g = some (.int 512)) (v : PV) : callN P (n + 2) fc [.p v] h = .ok (.p (.bl (isContent v))) h := by
  rw [call_eq hF rfl]
  have e1 := is_tuple_ok (n := n) (h := h) ht v 0 512
  cases hv : isTup v 0 512 with
  | true =>
    obtain ⟨xs, rfl, _, hl⟩ := isTup_of hv
    have hl2 : xs.length ≤ 512 := by omega
    have e2 := comp_eq (G := P.G) (k := callN P (n + 1)) (own := [1]) (i := 1) (c := none) (it := .val (.var 0)) (elt := .call fw [.var 1, .cst (.int 0), .cst (.int 255)]) (g := fun x => some (.bl (isWhole x 0 255))) (ρ := [some (.p (.tup xs)), none]) (h := h) (xs := xs) (val_eq (v := .tup xs) rfl rfl) (by simp) (by omega)
      fun x _ => .inl ⟨_, rfl, rfl, by simp [wipe, is_whole_ok hw]⟩
    simp [cFitsContent, startE, hg, e1, hv, e2, biW, lookAll, biP, blsOf_map2, all_id, isContent, hl2]
  | false =>
    have e3 : isContent v = false := by
      cases v <;> first | rfl | (simp [isTup] at hv; simp [isContent]; omega)
    simp [cFitsContent, startE, hg, e1, hv, e3]
theorem fits_contents_ok (hF : P.F fcs = some (cFitsContents ft fc g2)) (hF2 : P.F fc = some (cFitsContent fw ft g)) (hw : P.F fw = some cIsWhole) (ht : P.F ft = some cIsTuple) (hg : P.G g = some (.int 512)) (hg2 : P.G g2 = some (.int 1000)) (v : PV) : callN P (n + 3) fcs [.p v] h = .ok (.p (.bl (isContents v))) h := by
  rw [call_eq hF rfl]
  have e1 := is_tuple_ok (n := n + 1) (h := h) ht v 1 1000
  cases hv : isTup v 1 1000 with
  | true =>
    obtain ⟨xs, rfl, hl0, hl⟩ := isTup_of hv
    have hl1 : 1 ≤ xs.length := by omega
    have hl2 : xs.length ≤ 1000 := by omega
    have e2 := comp_eq (G := P.G) (k := callN P (n + 2)) (own := [1]) (i := 1) (c := none) (it := .val (.var 0)) (elt := .call fc [.var 1]) (g := fun x => some (.bl (isContent x))) (ρ := [some (.p (.tup xs)), none]) (h := h) (xs := xs) (val_eq (v := .tup xs) rfl rfl) (by simp) (by omega)
      fun x _ => .inl ⟨_, rfl, rfl, by simp [wipe, fits_content_ok hF2 hw ht hg]⟩
    simp [cFitsContents, startE, hg2, e1, hv, e2, biW, lookAll, biP, blsOf_map2, all_id, isContents, hl1, hl2]
  | false =>
    have e3 : isContents v = false := by
      cases v <;> first | rfl | (simp [isTup] at hv; simp [isContents]; omega)
    simp [cFitsContents, startE, hg2, e1, hv, e3]
theorem fits_slot_ok (hF : P.F fs = some (cFitsSlot fw ft fc g2)) (hF2 : P.F fc = some (cFitsContent fw ft g)) (hw : P.F fw = some cIsWhole) (ht : P.F ft = some cIsTuple) (hg : P.G g = some (.int 512)) (hg2 : P.G g2 = some (.int 1000)) (v : PV) : callN P (n + 3) fs [.p v] h = .ok (.p (.bl (isSlot v))) h := by
  rw [call_eq hF rfl]
  have e1 := is_tuple_ok (n := n + 1) (h := h) ht v 2 2
  cases hv : isTup v 2 2 with
  | true =>
    obtain ⟨xs, rfl, hl0, hl⟩ := isTup_of hv
    match xs, (show xs.length = 2 by omega) with
    | [x, c], _ =>
      simp [cFitsSlot, startE, hg2, e1, hv, idxW, idxP, atI, ixN, binW, binP, is_whole_ok hw, fits_content_ok hF2 hw ht hg, isSlot]
  | false =>
    have e3 : isSlot v = false := by
      cases v <;> first | rfl | skip
      rename_i xs
      match xs, hv with
      | [], _ => rfl
      | [_], _ => rfl
      | [_, _], hv => simp [isTup] at hv
      | _ :: _ :: _ :: _, _ => rfl
    simp [cFitsSlot, startE, e1, hv, e3]
theorem fits_mark_ok (hF : P.F fm = some (cFitsMark fw)) (hw : P.F fw = some cIsWhole) (l : List PV) (v : PV) : callN P (n + 2) fm [.p (.tup l), .p v] h = .ok (.p (.bl (isMark l.length v))) h := by
  rw [call_eq hF rfl]
  simp [cFitsMark, startE, cmpW, cmpD, cmpP, isP, biW, lookAll, biP, lenP, is_whole_ok hw, isMark]
theorem fits_disk_ok (hF : P.F fd = some (cFitsDisk ft fs fm fcs g3)) (hs : P.F fs = some (cFitsSlot fw ft fc g2)) (hm : P.F fm = some (cFitsMark fw)) (hcs : P.F fcs = some (cFitsContents ft fc g2)) (hF2 : P.F fc = some (cFitsContent fw ft g)) (hw : P.F fw = some cIsWhole) (ht : P.F ft = some cIsTuple) (hg : P.G g = some (.int 512)) (hg2 : P.G g2 = some (.int 1000)) (hg3 : P.G g3 = some (.int 1000)) (v : PV) :
    callN P (n + 4) fd [.p v] h = .ok (.p (.bl (isDisk v))) h := by
  rw [call_eq hF rfl]
  have e1 := is_tuple_ok (n := n + 2) (h := h) ht v 3 3
  cases hv : isTup v 3 3 with
  | true =>
    obtain ⟨xs, rfl, hl0, hl⟩ := isTup_of hv
    match xs, (show xs.length = 3 by omega) with
    | [m, l, c], _ =>
      have e2 := is_tuple_ok (n := n + 2) (h := h) ht l 0 1000
      cases hl : isTup l 0 1000 with
      | true =>
        obtain ⟨ys, rfl, _, hl1⟩ := isTup_of hl
        have hl2 : ys.length ≤ 1000 := by omega
        have e3 := comp_eq (G := P.G) (k := callN P (n + 3)) (own := [1]) (i := 1) (c := none) (it := .val (.idx (.var 0) (.cst (.int 1)))) (elt := .call fs [.var 1]) (g := fun x => some (.bl (isSlot x))) (ρ := [some (.p (.tup [m, .tup ys, c])), none]) (h := h) (xs := ys) (val_eq (h1 := h) (v := .tup ys) (by simp [idxW, idxP, atI, ixN]) rfl) (by simp) (by omega)
          fun x _ => .inl ⟨_, rfl, rfl, by simp [wipe, fits_slot_ok hs hF2 hw ht hg hg2]⟩
        cases ha : ys.all isSlot <;>
        simp [cFitsDisk, startE, hg3, e1, hv, e2, hl, e3, idxW, idxP, atI, ixN, biW, lookAll, biP, blsOf_map2, all_id, isDisk, hl2, ha, fits_mark_ok hm hw, fits_contents_ok hcs hF2 hw ht hg hg2]
      | false =>
        have e3 : isDisk (.tup [m, l, c]) = false := by
          cases l <;> first | rfl | (simp [isTup] at hl; simp [isDisk]; omega)
        simp [cFitsDisk, startE, hg3, e1, hv, e2, hl, e3, idxW, idxP, atI, ixN]
  | false =>
    have e3 : isDisk v = false := by
      cases v <;> first | rfl | skip
      rename_i xs
      match xs, hv with
      | [], _ => rfl
      | [_], _ => rfl
      | [_, _], _ => simp [isDisk]
      | [_, _, _], hv => simp [isTup] at hv
      | _ :: _ :: _ :: _ :: _, _ => simp [isDisk]
    simp [cFitsDisk, startE, e1, hv, e3]
end
end Br

set_option autoImplicit false
set_option linter.all false
set_option maxRecDepth 100000
set_option maxHeartbeats 2000000
namespace Br
def Slot6 (v : PV) : Prop := ∃ r c, v = .tup [r, c] ∧ Below 6 r ∧ Cont c
/-- a drawn disk -/
structure IsD (v : PV) : Prop where
  ex : ∃ (m : PV) (l c : List PV), v = .tup [m, .tup l, .tup c] ∧ l.length ≤ 4 ∧ (∀ y ∈ l, Slot6 y) ∧ (m = .non ∨ ∃ j : Int, m = .int j ∧ 1 ≤ j ∧ j ≤ (l.length : Nat)) ∧ 1 ≤ c.length ∧ c.length ≤ 4 ∧ ∀ y ∈ c, Cont y
section
variable {P : Pg} {n fr fs fc ft fd : Nat}
theorem disk_ok (hF : P.F fd = some (cDisk fr fc ft)) (hT : P.F ft = some (cContents fr fc)) (hC : P.F fc = some (cContent fr fs)) (hS : P.F fs = some (cSome fr)) (hR : P.F fr = some cRoll) : Gen (callN P (n + 5) fd [.r 0]) IsD := by
  intro a b t hc
  rw [call_eq hF rfl]
  obtain ⟨v, a1, b1, h1, ⟨r, rfl, r0, r1⟩, e1⟩ := roll_ok (P := P) (n := n + 3) hR (m := 5) (by decide) (by decide) a b t hc
  have hi : evI P.G (callN P (n + 4)) (.rng [.call fr [.var 0, .cst (.int 5)]]) [some (.r 0), none, none, none] (Cup a b :: t) = .ok (none, rngL 0 r) (Cup a1 b1 :: t) := by
    refine rng_eq ?_ (by omega)
    simp [e1]
  obtain ⟨l, a2, b2, h2, q2, l2, e2⟩ := comp_gen (own := [3]) (i := 3) (elt := .tup [.call fr [.var 0, .cst (.int 6)], .call fc [.var 0]]) (Q := Slot6) hi h1 (by simp) (by rw [rng_len]; omega) (fun x _ a b t hc => by
    obtain ⟨w, a3, b3, h3, q3, e3⟩ := roll_ok (P := P) (n := n + 3) hR (m := 6) (by decide) (by decide) a b t hc
    obtain ⟨c, a4, b4, h4, q4, e4⟩ := content_ok (P := P) (n := n + 1) hC hS hR a3 b3 t h3
    exact ⟨.tup [w, c], a4, b4, h4, ⟨w, c, rfl, q3, q4⟩, by simp [e3, e4, wipe]⟩)
  rw [rng_len] at l2
  have e2' : evE P.G (callN P (n + 4)) (.bi .tuple [.comp [3] (.nm 3) (.rng [.call fr [.var 0, .cst (.int 5)]]) none (.tup [.call fr [.var 0, .cst (.int 6)], .call fc [.var 0]])]) [some (.r 0), none, none, none] (Cup a b :: t) = .ok (.p (.tup l)) (Cup a2 b2 :: t) := tuple_eq e2
  -- the mark
  have mk : ∃ m a3 b3, CupOk a3 b3 ∧ (m = PV.non ∨ ∃ j : Int, m = .int j ∧ 1 ≤ j ∧ j ≤ (l.length : Nat)) ∧
      evE P.G (callN P (n + 4)) (.ife (.and_ [.cmp .ne (.var 1) (.tup []), .cmp .gt (.call fr [.var 0, .cst (.int 3)]) (.cst (.int 0))]) (.bin .add (.cst (.int 1)) (.call fr [.var 0, .bi .len [.var 1]])) (.cst .non)) [some (.r 0), some (.p (.tup l)), none, none] (Cup a2 b2 :: t) = .ok (.p m) (Cup a3 b3 :: t) := by
    cases l with
    | nil => exact ⟨.non, a2, b2, h2, .inl rfl, by simp [cmpW, cmpD, cmpP, eqP, deepC, PV.dle, PV.dleL, PV.eqv, PV.eqvL]⟩
    | cons y ys =>
      obtain ⟨w, a3, b3, h3, ⟨q, rfl, q0, q1⟩, e3⟩ := roll_ok (P := P) (n := n + 3) hR (m := 3) (by decide) (by decide) a2 b2 t h2
      by_cases hq : 0 < q
      · obtain ⟨w, a4, b4, h4, ⟨z, rfl, z0, z1⟩, e4⟩ := roll_ok (P := P) (n := n + 3) hR (m := ((y :: ys).length : Nat)) (by simp) (by omega) a3 b3 t h3
        refine ⟨.int (1 + z), a4, b4, h4, .inr ⟨1 + z, rfl, by omega, by omega⟩, ?_⟩
        simp at e4
        simp [cmpW, cmpD, cmpP, eqP, ltP, deepC, PV.dle, PV.dleL, PV.eqv, PV.eqvL, e3, hq, biW, lookAll, biP, lenP, e4, binW, binP]
      · exact ⟨.non, a3, b3, h3, .inl rfl, by simp [cmpW, cmpD, cmpP, eqP, ltP, deepC, PV.dle, PV.dleL, PV.eqv, PV.eqvL, e3, hq]⟩
  obtain ⟨m, a3, b3, h3, q3, e3⟩ := mk
  obtain ⟨v, a4, b4, h4, ⟨c, rfl, c1, c4, qc⟩, e4⟩ := contents_ok (P := P) (n := n) (m := 4) hT hC hS hR (by decide) (by decide) a3 b3 t h3
  refine ⟨.tup [m, .tup l, .tup c], a4, b4, h4, ⟨m, l, c, rfl, by omega, q2, q3, c1, by omega, qc⟩, ?_⟩
  show leave true _ (evB P.G (callN P (n + 4)) P.W (.asg (.nm 1) (.bi .tuple [.comp [3] (.nm 3) (.rng [.call fr [.var 0, .cst (.int 5)]]) none (.tup [.call fr [.var 0, .cst (.int 6)], .call fc [.var 0]])]) :: .asg (.nm 2) (.ife (.and_ [.cmp .ne (.var 1) (.tup []), .cmp .gt (.call fr [.var 0, .cst (.int 3)]) (.cst (.int 0))]) (.bin .add (.cst (.int 1)) (.call fr [.var 0, .bi .len [.var 1]])) (.cst .non)) :: _) [some (.r 0), none, none, none] (Cup a b :: t)) = _
  rw [eb_cons, es_asg, e2']
  simp only [ok_bind, putW_nm]
  rw [if_pos (by simp)]
  simp only [ok_bind]
  rw [eb_cons, es_asg]
  show leave true _ (((evE P.G (callN P (n + 4)) _ [some (.r 0), some (.p (.tup l)), none, none] (Cup a2 b2 :: t)).bind _).bind _) = _
  rw [e3]
  simp [e4]
end
end Br

set_option autoImplicit false
set_option linter.all false
set_option maxRecDepth 100000
set_option maxHeartbeats 2000000
namespace Br
theorem eqv_nil (xs : List PV) : PV.eqvL xs [] = xs.isEmpty := by cases xs <;> rfl
theorem eqP_nil (xs : List PV) : eqP (.lst xs) (.lst []) = some xs.isEmpty := by
  simp [eqP, deepC, PV.dle, PV.dleL, PV.eqv, eqv_nil]
theorem eqP_nilT (xs : List PV) : eqP (.tup xs) (.tup []) = some xs.isEmpty := by
  simp [eqP, deepC, PV.dle, PV.dleL, PV.eqv, eqv_nil]
theorem sift_empty {p : PV → Bool} : ∀ xs : List PV, (xs.filterMap fun x => if p x then none else some x).isEmpty = xs.all p
  | [] => rfl
  | x :: xs => by
    rw [List.filterMap_cons, List.all_cons]
    cases h : p x <;> simp [sift_empty xs]
section
variable {G : Nat → Option PV} {k : Ask} {W : Nat} {h h1 : CH} {ρ : Env}
theorem for_eq {tg : CG} {it : CI} {b : List CS} {xs : List PV} (hi : evI G k it ρ h = .ok (none, xs) h1) : evS G k W (.for_ tg it b) ρ h = forLoop none (fun x ρ1 h2 => match putG tg x ρ1 with
    | none => .err
    | some ρ2 => evB G k W b ρ2 h2) xs ρ h1 := by
  unfold evS
  rw [hi]; rfl
/-- a walk that ends at the first that is not as wanted -/
theorem forLoop_find {f : PV → Env → CH → Res Fl} {p : PV → Bool} {v : VV} {E : Env → Prop} : ∀ {xs : List PV}, (∀ x ∈ xs, ∀ ρ, E ρ → (p x = true ∧ ∃ ρ', E ρ' ∧ f x ρ h = .ok (.nx ρ') h) ∨ (p x = false ∧ f x ρ h = .ok (.rt v) h)) →
    ∀ ρ, E ρ → (xs.all p = true ∧ ∃ ρ', E ρ' ∧ forLoop none f xs ρ h = .ok (.nx ρ') h) ∨ (xs.all p = false ∧ forLoop none f xs ρ h = .ok (.rt v) h)
  | [], _, ρ, e => .inl ⟨rfl, ρ, e, rfl⟩
  | x :: xs, hf, ρ, e => by
    have st : forLoop none f (x :: xs) ρ h = (f x ρ h).bind fun fl h1 => (match fl with
      | .nx ρ1 => forLoop none f xs ρ1 h1
      | .ct ρ1 => forLoop none f xs ρ1 h1
      | .bk ρ1 => .ok (.nx ρ1) h1
      | .rt v => .ok (.rt v) h1) := rfl
    rw [st, List.all_cons]
    rcases hf x List.mem_cons_self ρ e with ⟨h1, ρ', e', h2⟩ | ⟨h1, h2⟩
    · rw [h1, h2]
      rcases forLoop_find (fun y hy => hf y (List.mem_cons_of_mem _ hy)) ρ' e' with ⟨a1, ρ2, a2, a3⟩ | ⟨a1, a2⟩
      · exact .inl ⟨by rw [a1]; rfl, ρ2, a2, a3⟩
      · exact .inr ⟨by rw [a1]; rfl, a2⟩
    · rw [h1, h2]
      exact .inr ⟨rfl, rfl⟩
end
/-! ### the law's own judgements -/
def cLawIsContent : CFun := ⟨1, 2, [(.ife (.or_ [(.not_ (.isi (.var 0) [.tuple])), (.cmp .gt (.bi .len [(.var 0)]) (.cst (.int 512)))]) [(.ret (.cst (.bl false)))] []), (.ret (.cmp .eq (.comp [1] (.nm 1) (.val (.var 0)) (some (.or_ [(.isi (.var 1) [.bool]), (.not_ (.isi (.var 1) [.int])), (.not_ (.cmp2 .le .le (.cst (.int 0)) (.var 1) (.cst (.int 255))))])) (.var 1)) (.lst [])))], true⟩
def cLawIsDisk (fc : Nat) : CFun := ⟨1, 3, [(.ife (.or_ [(.not_ (.isi (.var 0) [.tuple])), (.cmp .ne (.bi .len [(.var 0)]) (.cst (.int 3))), (.not_ (.isi (.idx (.var 0) (.cst (.int 1))) [.tuple])), (.cmp .gt (.bi .len [(.idx (.var 0) (.cst (.int 1)))]) (.cst (.int 1000)))]) [(.ret (.cst (.bl false)))] []), (.for_ (.nm 1) (.val (.idx (.var 0) (.cst (.int 1)))) [(.ife (.or_ [(.not_ (.isi (.var 1) [.tuple])), (.cmp .ne (.bi .len [(.var 1)]) (.cst (.int 2))), (.isi (.idx (.var 1) (.cst (.int 0))) [.bool]), (.not_ (.isi (.idx (.var 1) (.cst (.int 0))) [.int]))]) [(.ret (.cst (.bl false)))] []), (.ife (.or_ [(.not_ (.cmp2 .le .le (.cst (.int 0)) (.idx (.var 1) (.cst (.int 0))) (.cst (.int 999)))), (.not_ (.call fc [(.idx (.var 1) (.cst (.int 1)))]))]) [(.ret (.cst (.bl false)))] [])]), (.ife (.and_ [(.cmp .isnot (.idx (.var 0) (.cst (.int 0))) (.cst .non)), (.or_ [(.isi (.idx (.var 0) (.cst (.int 0))) [.bool]), (.not_ (.isi (.idx (.var 0) (.cst (.int 0))) [.int])), (.not_ (.cmp2 .le .le (.cst (.int 1)) (.idx (.var 0) (.cst (.int 0))) (.bi .len [(.idx (.var 0) (.cst (.int 1)))])))])]) [(.ret (.cst (.bl false)))] []), (.ret (.and_ [(.isi (.idx (.var 0) (.cst (.int 2))) [.tuple]), (.cmp2 .le .le (.cst (.int 1)) (.bi .len [(.idx (.var 0) (.cst (.int 2)))]) (.cst (.int 1000))), (.cmp .eq (.comp [2] (.nm 2) (.val (.idx (.var 0) (.cst (.int 2)))) (some (.not_ (.call fc [(.var 2)]))) (.var 2)) (.lst []))]))], true⟩
section
variable {P : Pg} {n fc fd : Nat} {h : CH}
theorem law_content_ok (hF : P.F fc = some cLawIsContent) (v : PV) : callN P (n + 1) fc [.p v] h = .ok (.p (.bl (isContent v))) h := by
  rw [call_eq hF rfl]
  cases v with
  | tup xs =>
    by_cases hl : xs.length ≤ 512
    · have e2 := comp_eq (G := P.G) (k := callN P n) (own := [1]) (i := 1) (c := some (.or_ [(.isi (.var 1) [.bool]), (.not_ (.isi (.var 1) [.int])), (.not_ (.cmp2 .le .le (.cst (.int 0)) (.var 1) (.cst (.int 255))))])) (it := .val (.var 0)) (elt := .var 1) (g := fun x => if isWhole x 0 255 then none else some x) (ρ := [some (.p (.tup xs)), none]) (h := h) (xs := xs) (val_eq (v := .tup xs) rfl rfl) (by simp) (by omega)
        fun x _ => by
          have e : evT P.G (callN P n) (some (.or_ [(.isi (.var 1) [.bool]), (.not_ (.isi (.var 1) [.int])), (.not_ (.cmp2 .le .le (.cst (.int 0)) (.var 1) (.cst (.int 255))))])) ((wipe [some (.p (.tup xs)), none] [1]).set 1 (some (.p x))) h = .ok (!isWhole x 0 255) h := by
            cases x <;> simp [wipe, tyP, isWhole, cmpW, cmpD, cmpP, ltP, ge_lt]
          cases hw : isWhole x 0 255 with
          | true => exact .inr ⟨by simp, by rw [e, hw]; rfl⟩
          | false => exact .inl ⟨x, by simp, by rw [e, hw]; rfl, by simp [wipe]⟩
      have hn : ¬ (512 : Int) < (xs.length : Int) := by omega
      simp [cLawIsContent, startE, tyP, biW, lookAll, biP, lenP, cmpW, cmpD, cmpP, ltP, hn, e2, eqP_nil, sift_empty, isContent, hl]
    · have hn : (512 : Int) < (xs.length : Int) := by omega
      simp [cLawIsContent, startE, tyP, biW, lookAll, biP, lenP, cmpW, cmpD, cmpP, ltP, hn, isContent, hl]
  | _ => simp [cLawIsContent, startE, tyP, isContent]
theorem contents_len {xs : List PV} : isContents (.tup xs) = (decide (1 ≤ xs.length) && decide (xs.length ≤ 1000) && xs.all isContent) := rfl
theorem law_disk_ok (hF : P.F fd = some (cLawIsDisk fc)) (hC : P.F fc = some cLawIsContent) (v : PV) : callN P (n + 2) fd [.p v] h = .ok (.p (.bl (isDisk v))) h := by
  rw [call_eq hF rfl]
  cases v with
  | tup vs =>
    match vs with
    | [m, l, c] =>
      cases l with
      | tup ys =>
        by_cases hl : ys.length ≤ 1000
        · have hn : ¬ (1000 : Int) < (ys.length : Int) := by omega
          -- the walk
          have hw := forLoop_find (h := h) (v := .p (.bl false)) (p := isSlot) (E := fun ρ => ∃ s, ρ = [some (.p (.tup [m, .tup ys, c])), s, none]) (xs := ys) (f := fun x ρ1 h2 => match putG (.nm 1) x ρ1 with
              | none => .err
              | some ρ2 => evB P.G (callN P (n + 1)) P.W [(.ife (.or_ [(.not_ (.isi (.var 1) [.tuple])), (.cmp .ne (.bi .len [(.var 1)]) (.cst (.int 2))), (.isi (.idx (.var 1) (.cst (.int 0))) [.bool]), (.not_ (.isi (.idx (.var 1) (.cst (.int 0))) [.int]))]) [(.ret (.cst (.bl false)))] []), (.ife (.or_ [(.not_ (.cmp2 .le .le (.cst (.int 0)) (.idx (.var 1) (.cst (.int 0))) (.cst (.int 999)))), (.not_ (.call fc [(.idx (.var 1) (.cst (.int 1)))]))]) [(.ret (.cst (.bl false)))] [])] ρ2 h2) (by
            rintro x _ ρ ⟨s, rfl⟩
            cases x with
            | tup zs =>
              match zs with
              | [z, d] =>
                cases z with
                | int i =>
                  by_cases h1 : 0 ≤ i ∧ i ≤ 999
                  · cases hd : isContent d with
                    | true =>
                      refine .inl ⟨by simp [isSlot, isWhole, h1, hd], _, ⟨some (.p (.tup [.int i, d])), rfl⟩, ?_⟩
                      have a1 : ¬ i < 0 := by omega
                      have a2 : ¬ 999 < i := by omega
                      simp [tyP, biW, lookAll, biP, lenP, cmpW, cmpD, cmpP, eqP, ltP, PV.dle, PV.eqv, deepC, idxW, idxP, atI, ixN, a1, a2, law_content_ok hC, hd]
                    | false =>
                      refine .inr ⟨by simp [isSlot, hd], ?_⟩
                      have a1 : ¬ i < 0 := by omega
                      have a2 : ¬ 999 < i := by omega
                      simp [tyP, biW, lookAll, biP, lenP, cmpW, cmpD, cmpP, eqP, ltP, PV.dle, PV.eqv, deepC, idxW, idxP, atI, ixN, a1, a2, law_content_ok hC, hd]
                  · refine .inr ⟨by simp [isSlot, isWhole]; intro a b; omega, ?_⟩
                    have a3 : i < 0 ∨ 999 < i := by omega
                    by_cases a1 : i < 0
                    · simp [tyP, biW, lookAll, biP, lenP, cmpW, cmpD, cmpP, eqP, ltP, PV.dle, PV.eqv, deepC, idxW, idxP, atI, ixN, a1]
                    · have a2 : 999 < i := by omega
                      simp [tyP, biW, lookAll, biP, lenP, cmpW, cmpD, cmpP, eqP, ltP, PV.dle, PV.eqv, deepC, idxW, idxP, atI, ixN, a1, a2]
                | _ => exact .inr ⟨by simp [isSlot, isWhole], by simp [tyP, biW, lookAll, biP, lenP, cmpW, cmpD, cmpP, eqP, PV.dle, PV.eqv, deepC, idxW, idxP, atI, ixN]⟩
              | [] => exact .inr ⟨rfl, by simp [tyP, biW, lookAll, biP, lenP, cmpW, cmpD, cmpP, eqP, PV.dle, PV.eqv, deepC]⟩
              | [_] => exact .inr ⟨rfl, by simp [tyP, biW, lookAll, biP, lenP, cmpW, cmpD, cmpP, eqP, PV.dle, PV.eqv, deepC]⟩
              | a :: b :: d :: r =>
                have e : ((r.length : Int) + 1 + 1 + 1 == 2) = false := by rw [beq_eq_false_iff_ne]; omega
                exact .inr ⟨rfl, by simp [tyP, biW, lookAll, biP, lenP, cmpW, cmpD, cmpP, eqP, PV.dle, PV.eqv, deepC, e]⟩
            | _ => exact .inr ⟨rfl, by simp [tyP]⟩) [some (.p (.tup [m, .tup ys, c])), none, none] ⟨none, rfl⟩
          have hfe : evS P.G (callN P (n + 1)) P.W (.for_ (.nm 1) (.val (.idx (.var 0) (.cst (.int 1)))) [(.ife (.or_ [(.not_ (.isi (.var 1) [.tuple])), (.cmp .ne (.bi .len [(.var 1)]) (.cst (.int 2))), (.isi (.idx (.var 1) (.cst (.int 0))) [.bool]), (.not_ (.isi (.idx (.var 1) (.cst (.int 0))) [.int]))]) [(.ret (.cst (.bl false)))] []), (.ife (.or_ [(.not_ (.cmp2 .le .le (.cst (.int 0)) (.idx (.var 1) (.cst (.int 0))) (.cst (.int 999)))), (.not_ (.call fc [(.idx (.var 1) (.cst (.int 1)))]))]) [(.ret (.cst (.bl false)))] [])]) [some (.p (.tup [m, .tup ys, c])), none, none] h = forLoop none _ ys [some (.p (.tup [m, .tup ys, c])), none, none] h := for_eq (h1 := h) (val_eq (h1 := h) (v := .tup ys) (by simp [idxW, idxP, atI, ixN]) rfl)
          rcases hw with ⟨a1, ρ', ⟨s, rfl⟩, a2⟩ | ⟨a1, a2⟩
          · -- all slots
            have a2 := hfe.trans a2
            -- the contents
            have e5 : ∀ cs : List PV, cs.length ≤ 1000 → evE P.G (callN P (n + 1)) (.comp [2] (.nm 2) (.val (.idx (.var 0) (.cst (.int 2)))) (some (.not_ (.call fc [(.var 2)]))) (.var 2)) [some (.p (.tup [m, .tup ys, .tup cs])), s, none] h = .ok (.p (.lst (cs.filterMap fun x => if isContent x then none else some x))) h := fun cs hc =>
              comp_eq (h1 := h) (xs := cs) (val_eq (h1 := h) (v := .tup cs) (by simp [idxW, idxP, atI, ixN]) rfl) (by simp) (by omega) fun x _ => by
                cases hw : isContent x with
                | true => exact .inr ⟨by simp, by simp [wipe, law_content_ok hC, hw]⟩
                | false => exact .inl ⟨x, by simp, by simp [wipe, law_content_ok hC, hw], by simp [wipe]⟩
            have fin : ∀ ρ, ρ = [some (.p (.tup [m, .tup ys, c])), s, none] → evE P.G (callN P (n + 1)) (.and_ [(.isi (.idx (.var 0) (.cst (.int 2))) [.tuple]), (.cmp2 .le .le (.cst (.int 1)) (.bi .len [(.idx (.var 0) (.cst (.int 2)))]) (.cst (.int 1000))), (.cmp .eq (.comp [2] (.nm 2) (.val (.idx (.var 0) (.cst (.int 2)))) (some (.not_ (.call fc [(.var 2)]))) (.var 2)) (.lst []))]) ρ h = .ok (.p (.bl (isContents c))) h := by
              rintro ρ rfl
              cases c with
              | tup cs =>
                by_cases c1 : 1 ≤ cs.length
                · by_cases c2 : cs.length ≤ 1000
                  · have n1 : ¬ (cs.length : Int) < 1 := by omega
                    have n2 : ¬ (1000 : Int) < (cs.length : Int) := by omega
                    simp [idxW, idxP, atI, ixN, tyP, biW, lookAll, biP, lenP, cmpW, cmpD, cmpP, ltP, n1, n2, e5 cs c2, eqP_nil, sift_empty, isContents, c1, c2]
                  · have n1 : ¬ (cs.length : Int) < 1 := by omega
                    have n2 : (1000 : Int) < (cs.length : Int) := by omega
                    simp [idxW, idxP, atI, ixN, tyP, biW, lookAll, biP, lenP, cmpW, cmpD, cmpP, ltP, n1, n2, isContents, c2]
                · have n1 : (cs.length : Int) < 1 := by omega
                  have c1' : ¬ 0 < cs.length := by omega
                  simp [idxW, idxP, atI, ixN, tyP, biW, lookAll, biP, lenP, cmpW, cmpD, cmpP, ltP, n1, isContents, c1]
              | _ => simp [idxW, idxP, atI, ixN, tyP, isContents]
            have mk : ∀ ρ, ρ = [some (.p (.tup [m, .tup ys, c])), s, none] → evE P.G (callN P (n + 1)) (.and_ [(.cmp .isnot (.idx (.var 0) (.cst (.int 0))) (.cst .non)), (.or_ [(.isi (.idx (.var 0) (.cst (.int 0))) [.bool]), (.not_ (.isi (.idx (.var 0) (.cst (.int 0))) [.int])), (.not_ (.cmp2 .le .le (.cst (.int 1)) (.idx (.var 0) (.cst (.int 0))) (.bi .len [(.idx (.var 0) (.cst (.int 1)))])))])]) ρ h = .ok (.p (.bl (!isMark ys.length m))) h := by
              rintro ρ rfl
              cases m with
              | int i =>
                by_cases n1 : i < 1
                · have n3 : ¬ 1 ≤ i := by omega
                  simp [tyP, biW, lookAll, biP, lenP, cmpW, cmpD, cmpP, ltP, isP, isNon, idxW, idxP, atI, ixN, isMark, isWhole, n1, n3]
                · by_cases n2 : (ys.length : Int) < i
                  · have n4 : ¬ i ≤ (ys.length : Int) := by omega
                    simp [tyP, biW, lookAll, biP, lenP, cmpW, cmpD, cmpP, ltP, isP, isNon, idxW, idxP, atI, ixN, isMark, isWhole, n1, n2, n4]
                  · have n3 : 1 ≤ i := by omega
                    have n4 : i ≤ (ys.length : Int) := by omega
                    simp [tyP, biW, lookAll, biP, lenP, cmpW, cmpD, cmpP, ltP, isP, isNon, idxW, idxP, atI, ixN, isMark, isWhole, n1, n2, n3, n4]
              | _ => simp [tyP, cmpW, cmpD, cmpP, isP, isNon, idxW, idxP, atI, ixN, isMark, isWhole]
            cases hm : isMark ys.length m <;>
            simp [cLawIsDisk, startE, tyP, biW, lookAll, biP, lenP, cmpW, cmpD, cmpP, eqP, ltP, PV.dle, PV.eqv, deepC, idxW, idxP, atI, ixN, hn, a2, fin, mk, isDisk, hl, a1, hm, -ev_and2]
          · have a2 := hfe.trans a2
            simp [cLawIsDisk, startE, tyP, biW, lookAll, biP, lenP, cmpW, cmpD, cmpP, eqP, ltP, PV.dle, PV.eqv, deepC, idxW, idxP, atI, ixN, hn, a2, isDisk, a1]
        · have hn : (1000 : Int) < (ys.length : Int) := by omega
          simp [cLawIsDisk, startE, tyP, biW, lookAll, biP, lenP, cmpW, cmpD, cmpP, eqP, ltP, PV.dle, PV.eqv, deepC, idxW, idxP, atI, ixN, hn, isDisk, hl]
      | _ => simp [cLawIsDisk, startE, tyP, biW, lookAll, biP, lenP, cmpW, cmpD, cmpP, eqP, PV.dle, PV.eqv, deepC, idxW, idxP, atI, ixN, isDisk]
    | [] => simp [cLawIsDisk, startE, tyP, biW, lookAll, biP, lenP, cmpW, cmpD, cmpP, eqP, PV.dle, PV.eqv, deepC, isDisk]
    | [_] => simp [cLawIsDisk, startE, tyP, biW, lookAll, biP, lenP, cmpW, cmpD, cmpP, eqP, PV.dle, PV.eqv, deepC, isDisk]
    | [_, _] => simp [cLawIsDisk, startE, tyP, biW, lookAll, biP, lenP, cmpW, cmpD, cmpP, eqP, PV.dle, PV.eqv, deepC, isDisk]
    | a :: b :: d :: e :: r =>
      have q : ((r.length : Int) + 1 + 1 + 1 + 1 == 3) = false := by rw [beq_eq_false_iff_ne]; omega
      simp [cLawIsDisk, startE, tyP, biW, lookAll, biP, lenP, cmpW, cmpD, cmpP, eqP, PV.dle, PV.eqv, deepC, isDisk, q]
  | _ => simp [cLawIsDisk, startE, tyP, isDisk]
end
end Br

set_option autoImplicit false
set_option linter.all false
set_option maxRecDepth 100000
set_option maxHeartbeats 2000000
namespace Br
section
variable {P : Pg} {G : Nat → Option PV} {k : Ask} {W n fr fs f : Nat} {h h1 : CH} {ρ : Env} {t : CH}
/-- a comprehension that draws nothing, any target -/
theorem comp_eqT {own : List Nat} {tg : CG} {it : CI} {c : Option CE} {elt : CE} {xs : List PV} {g : PV → Option PV} (hi : evI G k it ρ h = .ok (none, xs) h1) (hx : xs.length ≤ 1000000)
    (he : ∀ x ∈ xs, ∃ ρ', putG tg x (wipe ρ own) = some ρ' ∧ ((∃ y, g x = some y ∧ evT G k c ρ' h1 = .ok true h1 ∧ evE G k elt ρ' h1 = .ok (.p y) h1) ∨ (g x = none ∧ evT G k c ρ' h1 = .ok false h1))) :
    evE G k (.comp own tg it c elt) ρ h = .ok (.p (.lst (xs.filterMap g))) h1 := by
  unfold evE
  rw [hi]
  simp only [ok_bind]
  rw [mapLoop_pure (g := g)]
  · simp only [ok_bind, if_pos hx]
  · intro x m
    obtain ⟨ρ', e0, q⟩ := he x m
    simp only [e0]
    rcases q with ⟨y, e1, e2, e3⟩ | ⟨e1, e2⟩
    · rw [e2]
      simp only [ok_bind, if_true]
      rw [e3, e1]; rfl
    · rw [e2, e1]; rfl
theorem forLoop_gen {f : PV → Env → CH → Res Fl} {E : Env → Prop} : ∀ {xs : List PV}, (∀ x ∈ xs, ∀ (ρ : Env) (a b : Int), E ρ → CupOk a b → ∃ ρ' a' b', E ρ' ∧ CupOk a' b' ∧ f x ρ (Cup a b :: t) = .ok (.nx ρ') (Cup a' b' :: t)) →
    ∀ (ρ : Env) (a b : Int), E ρ → CupOk a b → ∃ ρ' a' b', E ρ' ∧ CupOk a' b' ∧ forLoop none f xs ρ (Cup a b :: t) = .ok (.nx ρ') (Cup a' b' :: t)
  | [], _, ρ, a, b, e, h => ⟨ρ, a, b, e, h, rfl⟩
  | x :: xs, hf, ρ, a, b, e, h => by
    obtain ⟨ρ1, a1, b1, e1, h1, q1⟩ := hf x List.mem_cons_self ρ a b e h
    obtain ⟨ρ2, a2, b2, e2, h2, q2⟩ := forLoop_gen (fun y hy => hf y (List.mem_cons_of_mem _ hy)) ρ1 a1 b1 e1 h1
    refine ⟨ρ2, a2, b2, e2, h2, ?_⟩
    have st : forLoop none f (x :: xs) ρ (Cup a b :: t) = (f x ρ (Cup a b :: t)).bind fun fl h1 => (match fl with
      | .nx ρ1 => forLoop none f xs ρ1 h1
      | .ct ρ1 => forLoop none f xs ρ1 h1
      | .bk ρ1 => .ok (.nx ρ1) h1
      | .rt v => .ok (.rt v) h1) := rfl
    rw [st, q1]
    exact q2
theorem for_gen {tg : CG} {it : CI} {b : List CS} {xs : List PV} {E : Env → Prop} {a0 b0 a1 b1 : Int} (hi : evI G k it ρ (Cup a0 b0 :: t) = .ok (none, xs) (Cup a1 b1 :: t)) (h1 : CupOk a1 b1) (hE : E ρ)
    (hf : ∀ x ∈ xs, ∀ (ρ : Env) (a' b' : Int), E ρ → CupOk a' b' → ∃ ρ1 ρ2 a2 b2, putG tg x ρ = some ρ1 ∧ E ρ2 ∧ CupOk a2 b2 ∧ evB G k W b ρ1 (Cup a' b' :: t) = .ok (.nx ρ2) (Cup a2 b2 :: t)) :
    ∃ ρ' a' b', E ρ' ∧ CupOk a' b' ∧ evS G k W (.for_ tg it b) ρ (Cup a0 b0 :: t) = .ok (.nx ρ') (Cup a' b' :: t) := by
  rw [for_eq hi]
  refine forLoop_gen (fun x hx ρ a' b' e h => ?_) ρ a1 b1 hE h1
  obtain ⟨ρ1, ρ2, a2, b2, e1, e2, e3, e4⟩ := hf x hx ρ a' b' e h
  exact ⟨ρ2, a2, b2, e2, e3, by rw [e1]; exact e4⟩
theorem cup_ok (hF : P.F f = some cCup) (ns : List Int) (hl : ns.length ≤ 63) : ∃ a b, CupOk a b ∧ callN P (n + 1) f [.s ns] [] = .ok (.r 0) [Cup a b] := by
  obtain ⟨x, hx⟩ : ∃ x : Int, atI (ns.map PV.int ++ [.int 0]) 0 = some (.int x) := by
    cases ns with
    | nil => exact ⟨0, rfl⟩
    | cons y ys =>
      refine ⟨y, ?_⟩
      unfold atI ixN
      rw [if_pos (by decide), if_pos (by simp; omega)]
      rfl
  have hl2 : ns.length + 1 ≤ 1000000 := by omega
  have hc : ∀ c : Int, 0 ≤ c → 0 ≤ (c * 349 + 3803) % 2077503011 + 227 ∧ (c * 349 + 3803) % 2077503011 + 227 < 4294967296 := fun c hc => by
    have h1 : 0 ≤ (c * 349 + 3803) % 2077503011 := Int.emod_nonneg _ (by decide)
    have h2 : (c * 349 + 3803) % 2077503011 < 2077503011 := Int.emod_lt_of_pos _ (by decide)
    omega
  have w2 : wideB 349 = true := by decide
  have pw : (10 : Int) ^ (18 : Nat) = 1000000000000000000 := by decide
  have c0 : 0 ≤ (if x < 0 then -x else x) := by split <;> omega
  generalize hcc : (if x < 0 then -x else x) = c at c0
  by_cases hb : c < 1000000000000000000
  · refine ⟨0, (c * 349 + 3803) % 2077503011 + 227, ⟨by decide, (hc c c0).1, (hc c c0).2⟩, ?_⟩
    rw [call_eq hF rfl]
    simp [cCup, startE, biW, lookAll, biP, binW, binP, idxW, idxP, hx, hl2, hcc, cmpW, cmpD, cmpP, ltP, pw, hb, mulOk, w2, leave, finish]
  · refine ⟨c / 113, (c * 349 + 3803) % 2077503011 + 227, ⟨by omega, (hc c c0).1, (hc c c0).2⟩, ?_⟩
    rw [call_eq hF rfl]
    simp [cCup, startE, biW, lookAll, biP, binW, binP, idxW, idxP, hx, hl2, hcc, cmpW, cmpD, cmpP, ltP, pw, hb, mulOk, w2, leave, finish]
/-- a law's own frame: the draws' cup, a loop, the rest -/
theorem run_law {cf : CFun} {s1 s2 : CS} {rest : List CS} {ns : List Int} {ρ1 ρ2 : Env} {h2 h3 : CH} (hF : P.F f = some cf) (hb : cf.body = s1 :: s2 :: rest) (hp : cf.np = 1) (hd : cf.drop = true)
    (e1 : evS P.G (callN P n) P.W s1 (startE cf.nl [.s ns]) [] = .ok (.nx ρ1) h1) (e2 : evS P.G (callN P n) P.W s2 ρ1 h1 = .ok (.nx ρ2) h2) (e3 : evB P.G (callN P n) P.W rest ρ2 h2 = .ok (.rt (.p (.bl true))) h3) :
    ∃ h', callN P (n + 1) f [.s ns] [] = .ok (.p (.bl true)) h' := by
  refine ⟨h3.take 0, ?_⟩
  rw [call_eq hF (by rw [hp]; rfl), hb, eb_cons, e1]
  simp only [ok_bind]
  rw [eb_cons, e2]
  simp only [ok_bind]
  rw [e3, hd]
  rfl
theorem asg_call {i g : Nat} {e : CE} {v : VV} {ρ : Env} (he : evE G k e ρ h = .ok v h1) (hi : i < ρ.length) : evS G k W (.asg (.nm i) e) ρ h = .ok (.nx (ρ.set i (some v))) h1 := by
  rw [es_asg, he]
  simp only [ok_bind, putW_nm, if_pos hi]
theorem call_var {i g : Nat} {v : VV} {ρ : Env} (hv : ρ[i]? = some (some v)) : evE G k (.call g [.var i]) ρ h = k g [v] h := by
  simp only [ev_call, evs_cons, evs_nil, ev_var, hv, ok_bind]
theorem shown_b (b : Bool) : shownOk (.bl b) = true := by cases b <;> decide
theorem beq_refl_b (b : Bool) : PV.beq (.bl b) (.bl b) = true := by cases b <;> rfl
end
end Br

set_option autoImplicit false
set_option linter.all false
set_option maxRecDepth 100000
set_option maxHeartbeats 2000000
set_option pp.maxSteps 300
/-! Writes. -/
namespace Br
def tMark : List Nat := [109, 97, 114, 107]
def tBlock : List Nat := [98, 108, 111, 99, 107]
def tLog : List Nat := [108, 111, 103]
def cFitsWrite (fw ft fs fm g : Nat) : CFun := ⟨2, 2, [(.ife (.or_ [(.not_ (.call ft [(.var 1), (.cst (.int 2)), (.cst (.int 4))])), (.not_ (.isi (.idx (.var 1) (.cst (.int 0))) [.str]))]) [(.ret (.cst (.bl false)))] []), (.ife (.cmp .eq (.idx (.var 1) (.cst (.int 0))) (.cst (.str [109, 97, 114, 107]))) [(.ret (.and_ [(.cmp .eq (.bi .len [(.var 1)]) (.cst (.int 2))), (.call fm [(.idx (.var 0) (.cst (.int 1))), (.idx (.var 1) (.cst (.int 1)))])]))] []), (.ife (.cmp .eq (.idx (.var 1) (.cst (.int 0))) (.cst (.str [98, 108, 111, 99, 107]))) [(.ret (.and_ [(.cmp .eq (.bi .len [(.var 1)]) (.cst (.int 3))), (.call fs [(.slc (.var 1) (some (.cst (.int 1))) none)])]))] []), (.ife (.or_ [(.cmp .ne (.idx (.var 1) (.cst (.int 0))) (.cst (.str [108, 111, 103]))), (.cmp .ne (.bi .len [(.var 1)]) (.cst (.int 4))), (.not_ (.call fw [(.idx (.var 1) (.cst (.int 1))), (.cst (.int 0)), (.bi .min [(.bi .len [(.idx (.var 0) (.cst (.int 1)))]), (.bin .sub (.glo g) (.cst (.int 1)))])]))]) [(.ret (.cst (.bl false)))] []), (.ret (.call fs [(.slc (.var 1) (some (.cst (.int 2))) none)]))], true⟩
def cWithItem : CFun := ⟨3, 3, [(.ret (.bin .add (.bin .add (.slc (.var 0) none (some (.var 1))) (.tup [(.var 2)])) (.slc (.var 0) (some (.bin .add (.var 1) (.cst (.int 1)))) none)))], true⟩
def cWrittenTo (fi : Nat) : CFun := ⟨2, 5, [(.asg (.tp [(.nm 2), (.nm 3), (.nm 4)]) (.var 0)), (.ife (.cmp .eq (.idx (.var 1) (.cst (.int 0))) (.cst (.str [109, 97, 114, 107]))) [(.ret (.tup [(.idx (.var 1) (.cst (.int 1))), (.var 3), (.var 4)]))] []), (.ife (.cmp .eq (.idx (.var 1) (.cst (.int 0))) (.cst (.str [108, 111, 103]))) [(.ret (.tup [(.var 2), (.call fi [(.var 3), (.idx (.var 1) (.cst (.int 1))), (.slc (.var 1) (some (.cst (.int 2))) none)]), (.var 4)]))] []), (.ret (.tup [(.var 2), (.var 3), (.call fi [(.bin .add (.var 4) (.bin .mul (.tup [(.tup [])]) (.bin .sub (.idx (.var 1) (.cst (.int 1))) (.bi .len [(.var 4)])))), (.idx (.var 1) (.cst (.int 1))), (.idx (.var 1) (.cst (.int 2)))])]))], true⟩
def cLawWritten : CFun := ⟨2, 5, [(.par [2, 3, 4] [(.idx (.var 0) (.cst (.int 0))), (.bi .list [(.idx (.var 0) (.cst (.int 1)))]), (.thaw (.bi .list [(.idx (.var 0) (.cst (.int 2)))]))]), (.ife (.cmp .eq (.idx (.var 1) (.cst (.int 0))) (.cst (.str [109, 97, 114, 107]))) [(.ret (.tup [(.idx (.var 1) (.cst (.int 1))), (.idx (.var 0) (.cst (.int 1))), (.idx (.var 0) (.cst (.int 2)))]))] []), (.ife (.cmp .eq (.idx (.var 1) (.cst (.int 0))) (.cst (.str [108, 111, 103]))) [(.asg (.nm 3) (.bin .add (.bin .add (.slc (.var 3) none (some (.idx (.var 1) (.cst (.int 1))))) (.lst [(.tup [(.idx (.var 1) (.cst (.int 2))), (.idx (.var 1) (.cst (.int 3)))])])) (.slc (.var 3) (some (.bin .add (.idx (.var 1) (.cst (.int 1))) (.cst (.int 1)))) none)))] [(.whl (.cmp .le (.bi .len [(.var 4)]) (.idx (.var 1) (.cst (.int 1)))) [(.exp (.mth .append (.var 4) [(.tup [])]))]), (.asg (.nm 4) (.bin .add (.bin .add (.slc (.var 4) none (some (.idx (.var 1) (.cst (.int 1))))) (.lst [(.idx (.var 1) (.cst (.int 2)))])) (.slc (.var 4) (some (.bin .add (.idx (.var 1) (.cst (.int 1))) (.cst (.int 1)))) none)))]), (.ret (.tup [(.var 2), (.bi .tuple [(.var 3)]), (.bi .tuple [(.var 4)])]))], true⟩

def minI (a b : Int) : Int := if b < a then b else a
def isWrite (l : Nat) : PV → Bool
  | .tup [.str s, a] => if s == tMark then isMark l a else false
  | .tup [.str s, a, b] => if s == tMark then false else if s == tBlock then isSlot (.tup [a, b]) else false
  | .tup [.str s, a, b, c] => if s == tMark then false else if s == tBlock then false else if s == tLog then isWhole a 0 (minI (l : Nat) 999) && isSlot (.tup [b, c]) else false
  | _ => false
section
variable {P : Pg} {n fw ft fc fs fm fcs fd fi f g g2 g3 : Nat} {h : CH}
theorem eqP_str (s t : List Nat) : eqP (.str s) (.str t) = some (s == t) := by simp [eqP, deepC, PV.dle, PV.eqv]
theorem eqP_int (s t : Int) : eqP (.int s) (.int t) = some (s == t) := by simp [eqP, deepC, PV.dle, PV.eqv]
theorem fits_write_ok (hF : P.F f = some (cFitsWrite fw ft fs fm g3)) (hs : P.F fs = some (cFitsSlot fw ft fc g2)) (hm : P.F fm = some (cFitsMark fw)) (hF2 : P.F fc = some (cFitsContent fw ft g)) (hw : P.F fw = some cIsWhole) (ht : P.F ft = some cIsTuple) (hg : P.G g = some (.int 512)) (hg2 : P.G g2 = some (.int 1000)) (hg3 : P.G g3 = some (.int 1000)) (m c : PV) (l : List PV) (v : PV) :
    callN P (n + 4) f [.p (.tup [m, .tup l, c]), .p v] h = .ok (.p (.bl (isWrite l.length v))) h := by
  rw [call_eq hF rfl]
  have e1 := is_tuple_ok (n := n + 2) (h := h) ht v 2 4
  have min_eq : ∀ a b : Int, (if b < a then b else a) = minI a b := fun a b => rfl
  cases hv : isTup v 2 4 with
  | true =>
    obtain ⟨xs, rfl, hl0, hl⟩ := isTup_of hv
    match xs with
    | [] => simp at hl0
    | [_] => simp at hl0
    | a :: b :: r =>
      cases a with
      | str s =>
        cases q1 : s == tMark with
        | true =>
          have q1' : (s == [109, 97, 114, 107]) = true := q1
          match r with
          | [] => simp [cFitsWrite, startE, e1, hv, idxW, idxP, atI, ixN, tyP, cmpW, cmpD, cmpP, eqP_str, eqP_int, q1', biW, lookAll, biP, lenP, fits_mark_ok hm hw, isWrite, q1]
          | [_] => simp [cFitsWrite, startE, e1, hv, idxW, idxP, atI, ixN, tyP, cmpW, cmpD, cmpP, eqP_str, eqP_int, q1', biW, lookAll, biP, lenP, isWrite, q1]
          | [_, _] => simp [cFitsWrite, startE, e1, hv, idxW, idxP, atI, ixN, tyP, cmpW, cmpD, cmpP, eqP_str, eqP_int, q1', biW, lookAll, biP, lenP, isWrite, q1]
          | _ :: _ :: _ :: _ => simp at hl; omega
        | false =>
          have q1' : (s == [109, 97, 114, 107]) = false := q1
          cases q2 : s == tBlock with
          | true =>
            have q2' : (s == [98, 108, 111, 99, 107]) = true := q2
            match r with
            | [] => simp [cFitsWrite, startE, e1, hv, idxW, idxP, atI, ixN, tyP, cmpW, cmpD, cmpP, eqP_str, eqP_int, q1', q2', biW, lookAll, biP, lenP, isWrite, q1]
            | [_] => simp [cFitsWrite, startE, e1, hv, idxW, idxP, atI, ixN, tyP, cmpW, cmpD, cmpP, eqP_str, eqP_int, q1', q2', biW, lookAll, biP, lenP, slcW, slcP, bound, cutL, cutN, fits_slot_ok hs hF2 hw ht hg hg2, isWrite, q1, q2]
            | [_, _] => simp [cFitsWrite, startE, e1, hv, idxW, idxP, atI, ixN, tyP, cmpW, cmpD, cmpP, eqP_str, eqP_int, q1', q2', biW, lookAll, biP, lenP, isWrite, q1, q2]
            | _ :: _ :: _ :: _ => simp at hl; omega
          | false =>
            have q2' : (s == [98, 108, 111, 99, 107]) = false := q2
            cases q3 : s == tLog with
            | true =>
              have q3' : (s == [108, 111, 103]) = true := q3
              match r with
              | [] => simp [cFitsWrite, startE, e1, hv, idxW, idxP, atI, ixN, tyP, cmpW, cmpD, cmpP, eqP_str, eqP_int, q1', q2', q3', biW, lookAll, biP, lenP, isWrite, q1]
              | [_] => simp [cFitsWrite, startE, e1, hv, idxW, idxP, atI, ixN, tyP, cmpW, cmpD, cmpP, eqP_str, eqP_int, q1', q2', q3', biW, lookAll, biP, lenP, isWrite, q1, q2]
              | [x, y] =>
                cases hb : isWhole b 0 (minI (l.length : Nat) 999) <;>
                simp [cFitsWrite, startE, e1, hv, idxW, idxP, atI, ixN, tyP, cmpW, cmpD, cmpP, eqP_str, eqP_int, q1', q2', q3', biW, lookAll, biP, lenP, hg3, binW, binP, min_eq, is_whole_ok hw, hb, slcW, slcP, bound, cutL, cutN, fits_slot_ok hs hF2 hw ht hg hg2, isWrite, q1, q2, q3]
              | _ :: _ :: _ :: _ => simp at hl; omega
            | false =>
              have q3' : (s == [108, 111, 103]) = false := q3
              match r with
              | [] => simp [cFitsWrite, startE, e1, hv, idxW, idxP, atI, ixN, tyP, cmpW, cmpD, cmpP, eqP_str, eqP_int, q1', q2', q3', biW, lookAll, biP, lenP, isWrite, q1]
              | [_] => simp [cFitsWrite, startE, e1, hv, idxW, idxP, atI, ixN, tyP, cmpW, cmpD, cmpP, eqP_str, eqP_int, q1', q2', q3', biW, lookAll, biP, lenP, isWrite, q1, q2]
              | [_, _] => simp [cFitsWrite, startE, e1, hv, idxW, idxP, atI, ixN, tyP, cmpW, cmpD, cmpP, eqP_str, eqP_int, q1', q2', q3', biW, lookAll, biP, lenP, isWrite, q1, q2, q3]
              | _ :: _ :: _ :: _ => simp at hl; omega
      | _ =>
        have h0 : (0 : Int) < (r.length : Int) + 1 + 1 := by omega
        simp [cFitsWrite, startE, e1, hv, idxW, idxP, atI, ixN, tyP, isWrite, h0]
  | false =>
    have e3 : isWrite l.length v = false := by
      cases v <;> first | rfl | skip
      rename_i xs
      match xs, hv with
      | [], _ => rfl
      | [_], _ => simp [isWrite]
      | [_, _], hv => simp [isTup] at hv
      | [_, _, _], hv => simp [isTup] at hv
      | [_, _, _, _], hv => simp [isTup] at hv
      | _ :: _ :: _ :: _ :: _ :: _, _ => simp [isWrite]
    simp [cFitsWrite, startE, e1, hv, e3]
theorem cutN_nat (n d k : Nat) : cutN n d (some (k : Int)) = min k n := by
  unfold cutN
  have : ¬ (k : Int) < 0 := by omega
  simp [this]
theorem cut_to {α : Type} (xs : List α) (k : Nat) : cutL xs none (some (k : Int)) = xs.take k := by
  unfold cutL
  rw [cutN_nat]
  simp [cutN]
theorem cut_from {α : Type} (xs : List α) (k : Nat) : cutL xs (some (k : Int)) none = xs.drop k := by
  unfold cutL
  rw [cutN_nat]
  simp [cutN]
  by_cases hk : k ≤ xs.length
  · rw [Nat.min_eq_left hk, List.take_of_length_le (by simp)]
  · rw [Nat.min_eq_right (by omega), List.drop_of_length_le (Nat.le_refl _), List.drop_of_length_le (by omega)]; simp
/-- an item put in at a place -/
def withItem (xs : List PV) (k : Nat) (x : PV) : List PV := xs.take k ++ [x] ++ xs.drop (k + 1)
theorem with_item_ok (hF : P.F fi = some cWithItem) (xs : List PV) (k : Nat) (x : PV) (hl : xs.length + 2 ≤ 1000000) : callN P (n + 1) fi [.p (.tup xs), .p (.int (k : Nat)), .p x] h = .ok (.p (.tup (withItem xs k x))) h := by
  rw [call_eq hF rfl]
  have e : ((k : Int) + 1) = ((k + 1 : Nat) : Int) := by omega
  have e2 := cut_to xs k
  have e3 := cut_from xs (k + 1)
  have l1 : (xs.take k).length + 1 ≤ 1000000 := by rw [List.length_take]; omega
  have l2 : (xs.take k).length + 1 + (xs.drop (k + 1)).length ≤ 1000000 := by rw [List.length_take, List.length_drop]; omega
  rw [← e] at e3
  simp only [List.length_take, List.length_drop] at l1 l2
  simp [cWithItem, startE, slcW, slcP, bound, binW, binP, e2, e3, l1, l2, withItem]
/-- what a right write makes of a disk -/
def writtenTo (m : PV) (l c : List PV) : PV → PV
  | .tup [.str s, a] => .tup [a, .tup l, .tup c]
  | .tup [.str s, .int k, b] => .tup [m, .tup l, .tup (withItem (c ++ List.replicate (k.toNat - c.length) (.tup [])) k.toNat b)]
  | .tup [.str s, .int k, b, d] => .tup [m, .tup (withItem l k.toNat (.tup [b, d])), .tup c]
  | _ => .non
theorem repL_one {α : Type} (x : α) (n : Nat) : repL n [x] = List.replicate n x := by
  unfold repL
  induction n with
  | zero => rfl
  | succ n ih => rw [List.replicate_succ, List.flatten_cons, ih, List.replicate_succ]; rfl
/-- the forms of a right write -/
theorem write_forms {l : Nat} {v : PV} (h : isWrite l v = true) : (∃ a, v = .tup [.str tMark, a] ∧ isMark l a = true) ∨ (∃ (k : Nat) (b : PV), v = .tup [.str tBlock, .int k, b] ∧ k ≤ 999 ∧ isContent b = true) ∨
    (∃ (k j : Nat) (d : PV), v = .tup [.str tLog, .int k, .int j, d] ∧ k ≤ l ∧ k ≤ 999 ∧ j ≤ 999 ∧ isContent d = true) := by
  unfold isWrite at h
  split at h
  · rename_i s a
    split at h
    · rename_i hs
      rw [eq_of_beq hs]
      exact .inl ⟨a, rfl, h⟩
    · cases h
  · rename_i s a b
    split at h
    · cases h
    · split at h
      · rename_i hs
        rw [eq_of_beq hs]
        unfold isSlot at h
        rw [Bool.and_eq_true] at h
        obtain ⟨h1, h2⟩ := h
        cases a <;> simp [isWhole] at h1
        rename_i i
        obtain ⟨k, rfl⟩ := Int.eq_ofNat_of_zero_le h1.1
        exact .inr (.inl ⟨k, b, rfl, by omega, h2⟩)
      · cases h
  · rename_i s a b d
    split at h
    · cases h
    · split at h
      · cases h
      · split at h
        · rename_i hs
          rw [eq_of_beq hs]
          unfold isSlot at h
          rw [Bool.and_eq_true, Bool.and_eq_true] at h
          obtain ⟨h0, h1, h2⟩ := h
          cases a <;> simp [isWhole] at h0
          cases b <;> simp [isWhole] at h1
          rename_i i j
          obtain ⟨k, rfl⟩ := Int.eq_ofNat_of_zero_le h0.1
          obtain ⟨z, rfl⟩ := Int.eq_ofNat_of_zero_le h1.1
          have hm : ((k : Nat) : Int) ≤ minI (l : Nat) 999 := h0.2
          unfold minI at hm
          split at hm <;> exact .inr (.inr ⟨k, z, d, rfl, by omega, by omega, by omega, h2⟩)
        · cases h
  · cases h
theorem written_to_ok (hF : P.F f = some (cWrittenTo fi)) (hI : P.F fi = some cWithItem) (m : PV) (l c : List PV) (v : PV) (hw : isWrite l.length v = true) (hl : l.length ≤ 2000) (hc : c.length ≤ 2000) :
    callN P (n + 2) f [.p (.tup [m, .tup l, .tup c]), .p v] h = .ok (.p (writtenTo m l c v)) h := by
  rw [call_eq hF rfl]
  rcases write_forms hw with ⟨a, rfl, _⟩ | ⟨k, b, rfl, hk, _⟩ | ⟨k, j, d, rfl, hk, hk2, hj, _⟩
  · simp [cWrittenTo, startE, tMark, cmpW, cmpD, cmpP, eqP_str, idxW, idxP, atI, ixN, writtenTo]
  · have e1 : -100000 ≤ (k : Int) - (c.length : Int) ∧ (k : Int) - (c.length : Int) ≤ 100000 := by omega
    have e2 : ((k : Int) - (c.length : Int)).toNat = k - c.length := by omega
    have l1 : c.length + (k - c.length) ≤ 1000000 := by omega
    have e3 := with_item_ok (n := n) (h := h) hI (c ++ List.replicate (k - c.length) (.tup [])) k b (by simp; omega)
    simp [cWrittenTo, startE, tBlock, cmpW, cmpD, cmpP, eqP_str, idxW, idxP, atI, ixN, biW, lookAll, biP, lenP, binW, binP, e1, e2, repL_one, l1, e3, writtenTo]
  · have e3 := with_item_ok (n := n) (h := h) hI l k (.tup [.int j, d]) (by omega)
    simp [cWrittenTo, startE, tLog, cmpW, cmpD, cmpP, eqP_str, idxW, idxP, atI, ixN, slcW, slcP, bound, cutL, cutN, e3, writtenTo]
end
end Br

set_option autoImplicit false
set_option linter.all false
set_option maxRecDepth 100000
set_option maxHeartbeats 2000000
set_option pp.maxSteps 300
namespace Br
/-! ### texts of data: equal, not too long -/
mutual
theorem PV.beq_refl : ∀ x : PV, PV.beq x x = true
  | .non => rfl
  | .bl b => by simp [PV.beq]
  | .int b => by simp [PV.beq]
  | .str b => by simp [PV.beq]
  | .tup xs => by simp only [PV.beq]; exact PV.beqL_refl xs
  | .lst xs => by simp only [PV.beq]; exact PV.beqL_refl xs
theorem PV.beqL_refl : ∀ x : List PV, PV.beqL x x = true
  | [] => rfl
  | x :: xs => by simp only [PV.beqL, PV.beq_refl x, PV.beqL_refl xs]; rfl
end
theorem cmpT_ne (x : PV) : cmpT .ne x x = some false := by simp [cmpT, PV.beq_refl]
theorem cmpT_eq (x : PV) : cmpT .eq x x = some true := by simp [cmpT, PV.beq_refl]
theorem szL_le {B : Nat} : ∀ {xs : List PV}, (∀ x ∈ xs, szP x ≤ B) → szL xs ≤ xs.length * (B + 2)
  | [], _ => by simp [szL]
  | x :: xs, h => by
    have h1 := h x List.mem_cons_self
    have h2 := szL_le fun y hy => h y (List.mem_cons_of_mem x hy)
    simp only [szL, List.length_cons, Nat.succ_mul]
    omega
theorem dleL_of {d : Nat} : ∀ {xs : List PV}, (∀ x ∈ xs, x.dle d = true) → PV.dleL d xs = true
  | [], _ => rfl
  | x :: xs, h => by
    simp only [PV.dleL, h x List.mem_cons_self, dleL_of fun y hy => h y (List.mem_cons_of_mem x hy)]; rfl
theorem sz_whole {x : PV} {lo hi : Int} (h : isWhole x lo hi = true) (h0 : 0 ≤ lo) (h1 : hi < 100000000000000000000) : szP x ≤ 20 ∧ ∀ d, x.dle d = true := by
  cases x <;> simp [isWhole] at h
  rename_i i
  refine ⟨?_, fun d => by cases d <;> rfl⟩
  unfold szP
  rw [if_pos (by omega)]
  omega
theorem sz_content {x : PV} (h : isContent x = true) : szP x ≤ 11267 ∧ ∀ d, x.dle (d + 1) = true := by
  cases x <;> simp [isContent] at h
  rename_i xs
  have h1 := szL_le (B := 20) (xs := xs) fun y hy => (sz_whole (h.2 y hy) (by decide) (by decide)).1
  refine ⟨by simp only [szP]; omega, fun d => ?_⟩
  simp only [PV.dle]
  exact dleL_of fun y hy => (sz_whole (h.2 y hy) (by decide) (by decide)).2 d
theorem sz_slot {x : PV} (h : isSlot x = true) : szP x ≤ 11300 ∧ ∀ d, x.dle (d + 2) = true := by
  unfold isSlot at h
  split at h
  · rename_i n c
    rw [Bool.and_eq_true] at h
    have h1 := sz_whole h.1 (by decide) (by decide)
    have h2 := sz_content h.2
    refine ⟨by simp only [szP, szL]; omega, fun d => ?_⟩
    simp only [PV.dle, PV.dleL, h1.2, h2.2]; rfl
  · cases h
theorem disk_parts {v : PV} (h : isDisk v = true) : ∃ m l c, v = .tup [m, .tup l, .tup c] ∧ l.length ≤ 1000 ∧ (∀ x ∈ l, isSlot x = true) ∧ isMark l.length m = true ∧ 1 ≤ c.length ∧ c.length ≤ 1000 ∧ ∀ x ∈ c, isContent x = true := by
  unfold isDisk at h
  split at h
  · rename_i m l c
    cases c with
    | tup c =>
      simp only [Bool.and_eq_true, decide_eq_true_eq, List.all_eq_true, isContents] at h
      obtain ⟨⟨h1, h2⟩, h3, ⟨h4, h5⟩, h6⟩ := h
      exact ⟨m, l, c, rfl, h1, h2, h3, h4, h5, h6⟩
    | _ => simp [isContents] at h
  · cases h
theorem disk_of {m : PV} {l c : List PV} (h1 : l.length ≤ 1000) (h2 : ∀ x ∈ l, isSlot x = true) (h3 : isMark l.length m = true) (h4 : 1 ≤ c.length) (h5 : c.length ≤ 1000) (h6 : ∀ x ∈ c, isContent x = true) : isDisk (.tup [m, .tup l, .tup c]) = true := by
  simp only [isDisk, isContents, Bool.and_eq_true, decide_eq_true_eq, List.all_eq_true]
  exact ⟨⟨h1, h2⟩, h3, ⟨h4, h5⟩, h6⟩
theorem mark_sz {l : Nat} {m : PV} (h : isMark l m = true) (hl : l ≤ 100000) : szP m ≤ 20 ∧ ∀ d, m.dle d = true := by
  unfold isMark at h
  rw [Bool.or_eq_true] at h
  rcases h with h | h
  · cases m <;> simp [isNon] at h
    exact ⟨by decide, fun d => by cases d <;> rfl⟩
  · exact sz_whole h (by decide) (by omega)
theorem shown_disk {m : PV} {l c : List PV} (h : isDisk (.tup [m, .tup l, .tup c]) = true) (hs : l.length + c.length ≤ 1400) : shownOk (.tup [m, .tup l, .tup c]) = true := by
  obtain ⟨m', l', c', e, h1, h2, h3, h4, h5, h6⟩ := disk_parts h
  cases e
  have z1 := szL_le (B := 11300) (xs := l) fun x hx => (sz_slot (h2 x hx)).1
  have z2 := szL_le (B := 11300) (xs := c) fun x hx => Nat.le_trans (sz_content (h6 x hx)).1 (by decide)
  have z3 := mark_sz h3 (by omega)
  unfold shownOk
  rw [Bool.and_eq_true]
  refine ⟨decide_eq_true ?_, ?_⟩
  · simp only [szP, szL]; omega
  · simp only [PV.dle, PV.dleL, z3.2, Bool.true_and, Bool.and_true, Bool.and_eq_true]
    exact ⟨dleL_of fun x hx => (sz_slot (h2 x hx)).2 56, dleL_of fun x hx => (sz_content (h6 x hx)).2 57⟩
/-! ### a right write keeps a disk right -/
theorem withItem_len (xs : List PV) (k : Nat) (x : PV) (hk : k ≤ xs.length) : (withItem xs k x).length = max xs.length (k + 1) := by
  unfold withItem
  simp only [List.length_append, List.length_take, List.length_cons, List.length_nil, List.length_drop]
  omega
theorem withItem_all {p : PV → Bool} {xs : List PV} {k : Nat} {x : PV} (h : ∀ y ∈ xs, p y = true) (hx : p x = true) : ∀ y ∈ withItem xs k x, p y = true := by
  intro y hy
  unfold withItem at hy
  rw [List.mem_append, List.mem_append] at hy
  rcases hy with (hy | hy) | hy
  · exact h y (List.mem_of_mem_take hy)
  · rw [List.mem_singleton.mp hy]; exact hx
  · exact h y (List.mem_of_mem_drop hy)
theorem mark_mono {l l' : Nat} {m : PV} (h : isMark l m = true) (hl : l ≤ l') : isMark l' m = true := by
  unfold isMark at h ⊢
  rw [Bool.or_eq_true] at h ⊢
  refine h.imp id fun h => ?_
  cases m <;> simp [isWhole] at h ⊢
  omega
theorem written_disk {m : PV} {l c : List PV} {w : PV} (h : isDisk (.tup [m, .tup l, .tup c]) = true) (hw : isWrite l.length w = true) : ∃ m' l' c', writtenTo m l c w = .tup [m', .tup l', .tup c'] ∧ isDisk (.tup [m', .tup l', .tup c']) = true ∧ l'.length ≤ l.length + 1 ∧ c'.length ≤ max c.length 1000 := by
  obtain ⟨m', l', c', e, h1, h2, h3, h4, h5, h6⟩ := disk_parts h
  cases e
  rcases write_forms hw with ⟨a, rfl, ha⟩ | ⟨k, b, rfl, hk, hb⟩ | ⟨k, j, d, rfl, hk, hk2, hj, hd⟩
  · exact ⟨a, l, c, rfl, disk_of h1 h2 ha h4 h5 h6, by omega, by omega⟩
  · have hl : (withItem (c ++ List.replicate (k - c.length) (.tup [])) k b).length = max (max c.length k) (k + 1) := by
      rw [withItem_len _ _ _ (by simp; omega)]
      simp only [List.length_append, List.length_replicate]; omega
    refine ⟨m, l, _, rfl, disk_of h1 h2 h3 (by rw [Int.toNat_natCast, hl]; omega) (by rw [Int.toNat_natCast, hl]; omega) ?_, by omega, by rw [Int.toNat_natCast, hl]; omega⟩
    refine withItem_all (fun y hy => ?_) hb
    rw [List.mem_append] at hy
    rcases hy with hy | hy
    · exact h6 y hy
    · rw [List.eq_of_mem_replicate hy]; rfl
  · have hl := withItem_len l k (.tup [.int j, d]) hk
    refine ⟨m, _, c, rfl, disk_of (by rw [Int.toNat_natCast, hl]; omega) ?_ (mark_mono h3 (by rw [Int.toNat_natCast, hl]; omega)) h4 h5 h6, by rw [Int.toNat_natCast, hl]; omega, by omega⟩
    refine withItem_all h2 ?_
    simp [isSlot, isWhole, hd]; omega
/-! ### the law's own writing -/
section
variable {P : Pg} {n f : Nat} {h : CH}
theorem cell_at {h : CH} {x : Cell} : (h ++ [x])[h.length]? = some x := by simp
theorem cell_set {h : CH} {x y : Cell} : (h ++ [x]).set h.length y = h ++ [y] := by simp
theorem whl_t {c : Env → CH → Res Bool} {f : Env → CH → Res Fl} {W : Nat} {ρ ρ2 : Env} {h h1 h2 : CH} (hc : c ρ h = .ok true h1) (hf : f ρ h1 = .ok (.nx ρ2) h2) : whlLoop c f (W + 1) ρ h = whlLoop c f W ρ2 h2 := by
  show (c ρ h).bind _ = _
  rw [hc]
  simp only [ok_bind, if_true]
  rw [hf]
  rfl
theorem whl_f {c : Env → CH → Res Bool} {f : Env → CH → Res Fl} {W : Nat} {ρ : Env} {h h1 : CH} (hc : c ρ h = .ok false h1) : whlLoop c f (W + 1) ρ h = .ok (.nx ρ) h1 := by
  show (c ρ h).bind _ = _
  rw [hc]
  rfl
/-- what is appended up to a place -/
theorem grow_ok {G : Nat → Option PV} {kk : Ask} {W : Nat} {ρ : Env} {k : Nat} {e : CE} (hρ : ρ[4]? = some (some (.r h.length))) (hw : ∀ h', evE G kk e ρ h' = .ok (.p (.int (k : Nat))) h') :
    ∀ (j W' : Nat) (c : List PV), k + 1 - c.length = j → j < W' → k ≤ 1000 → c.length ≤ 2000 → whlLoop (fun ρ1 h1 => (evE G kk (.cmp .le (.bi .len [.var 4]) e) ρ1 h1).bind fun v h2 => Res.ofO h2 (truth h2 v)) (fun ρ1 h1 => evB G kk W [.exp (.mth .append (.var 4) [.tup []])] ρ1 h1) W' ρ (h ++ [.lst c]) =
      .ok (.nx ρ) (h ++ [.lst (c ++ List.replicate j (.tup []))])
  | 0, W' + 1, c, hj, hW, hk, hc => by
    have n1 : (k : Int) < (c.length : Int) := by omega
    rw [whl_f (h1 := h ++ [.lst c]) (by simp [hρ, hw, biW, lookAll, look, biP, lenP, cmpW, cmpD, cmpP, ltP, n1])]
    simp
  | j + 1, W' + 1, c, hj, hW, hk, hc => by
    have n1 : ¬ (k : Int) < (c.length : Int) := by omega
    have n2 : c.length < 1000000 := by omega
    have ih := grow_ok (W := W) hρ hw j W' (c ++ [.tup []]) (by simp; omega) (by omega) hk (by simp; omega)
    have e1 : evE G kk (.mth .append (.var 4) [.tup []]) ρ (h ++ [.lst c]) = .ok (.p .non) (h ++ [.lst (c ++ [.tup []])]) := by
      unfold evE
      simp [hρ, look, mthW, n2]
    rw [whl_t (ρ2 := ρ) (h1 := h ++ [.lst c]) (h2 := h ++ [.lst (c ++ [.tup []])]) (by simp [hρ, hw, biW, lookAll, look, biP, lenP, cmpW, cmpD, cmpP, ltP, n1]) (by simp [e1]), ih, List.append_assoc]
    rfl
  | _, 0, _, _, hW, _, _ => by omega
theorem grown_eq (c : List PV) (k : Nat) (b : PV) : (c ++ List.replicate (k + 1 - c.length) (PV.tup [])).take k ++ b :: (c ++ List.replicate (k + 1 - c.length) (PV.tup [])).drop (k + 1) = withItem (c ++ List.replicate (k - c.length) (.tup [])) k b := by
  unfold withItem
  by_cases hk : k + 1 ≤ c.length
  · have e1 : k + 1 - c.length = 0 := by omega
    have e2 : k - c.length = 0 := by omega
    rw [e1, e2]; simp
  · have e1 : k + 1 - c.length = (k - c.length) + 1 := by omega
    rw [e1, List.replicate_succ', ← List.append_assoc]
    have hl : (c ++ List.replicate (k - c.length) (PV.tup [])).length = k := by simp; omega
    rw [List.take_append_of_le_length (by rw [hl]; omega), List.drop_of_length_le (by simp; omega), List.drop_of_length_le (by rw [hl]; omega)]
    simp
theorem law_written_ok (hF : P.F f = some cLawWritten) (hW : 2000 ≤ P.W) (m : PV) (l c : List PV) (v : PV) (hw : isWrite l.length v = true) (hl : l.length ≤ 2000) (hc : c.length ≤ 2000) :
    callN P (n + 1) f [.p (.tup [m, .tup l, .tup c]), .p v] h = .ok (.p (writtenTo m l c v)) h := by
  rw [call_eq hF rfl]
  rcases write_forms hw with ⟨a, rfl, _⟩ | ⟨k, b, rfl, hk, _⟩ | ⟨k, j, d, rfl, hk, hk2, hj, _⟩
  · simp [cLawWritten, startE, tMark, cmpW, cmpD, cmpP, eqP_str, idxW, idxP, atI, ixN, biW, lookAll, biP, setAll, writtenTo]
  · have g := grow_ok (h := h) (G := P.G) (kk := callN P n) (W := P.W) (k := k) (e := .idx (.var 1) (.cst (.int 1))) (ρ := [some (.p (.tup [m, .tup l, .tup c])), some (.p (.tup [.str tBlock, .int k, b])), some (.p m), some (.p (.lst l)), some (.r h.length)]) rfl (fun h' => by simp [idxW, idxP, atI, ixN]) (k + 1 - c.length) P.W c rfl (by omega) (by omega) hc
    have gw : evS P.G (callN P n) P.W (.whl (.cmp .le (.bi .len [(.var 4)]) (.idx (.var 1) (.cst (.int 1)))) [(.exp (.mth .append (.var 4) [(.tup [])]))]) [some (.p (.tup [m, .tup l, .tup c])), some (.p (.tup [.str tBlock, .int k, b])), some (.p m), some (.p (.lst l)), some (.r h.length)] (h ++ [.lst c]) = _ := g
    generalize hC : c ++ List.replicate (k + 1 - c.length) (PV.tup []) = C at gw
    have hCl : C.length ≤ 4000 := by rw [← hC]; simp; omega
    have e : ((k : Int) + 1) = ((k + 1 : Nat) : Int) := by omega
    have e2 := cut_to C k
    have e3 := cut_from C (k + 1)
    rw [← e] at e3
    have l1 : min k C.length + 1 ≤ 1000000 := by omega
    have l2 : min k C.length + 1 + (C.length - (k + 1)) ≤ 1000000 := by omega
    have fin := grown_eq c k b
    rw [hC] at fin
    simp only [tBlock] at gw
    simp [cLawWritten, startE, tBlock, cmpW, cmpD, cmpP, eqP_str, idxW, idxP, atI, ixN, biW, lookAll, look, biP, setAll, gw, slcW, slcP, bound, binW, binP, e2, e3, l1, l2, writtenTo, fin]
  · have e : ((k : Int) + 1) = ((k + 1 : Nat) : Int) := by omega
    have e2 := cut_to l k
    have e3 := cut_from l (k + 1)
    rw [← e] at e3
    have l1 : min k l.length + 1 ≤ 1000000 := by omega
    have l2 : min k l.length + 1 + (l.length - (k + 1)) ≤ 1000000 := by omega
    simp [cLawWritten, startE, tLog, cmpW, cmpD, cmpP, eqP_str, idxW, idxP, atI, ixN, biW, lookAll, look, biP, setAll, slcW, slcP, bound, binW, binP, e2, e3, l1, l2, writtenTo, withItem]
end
end Br

set_option autoImplicit false
set_option linter.all false
set_option maxRecDepth 100000
set_option maxHeartbeats 2000000
set_option pp.maxSteps 300
/-! Blocks written one behind the other. -/
namespace Br
mutual
theorem eqv_refl : ∀ x : PV, PV.eqv x x = true
  | .non => rfl
  | .bl b => by simp [PV.eqv]
  | .int b => by simp [PV.eqv]
  | .str b => by simp [PV.eqv]
  | .tup xs => by simp only [PV.eqv]; exact eqvL_refl xs
  | .lst xs => by simp only [PV.eqv]; exact eqvL_refl xs
theorem eqvL_refl : ∀ x : List PV, PV.eqvL x x = true
  | [] => rfl
  | x :: xs => by simp only [PV.eqvL, eqv_refl x, eqvL_refl xs]; rfl
end
theorem eqP_refl {x : PV} (h : x.dle 60 = true) : eqP x x = some true := by simp [eqP, deepC, h, eqv_refl]
/-- the content of a block -/
def cAt (xs : List PV) (k : Nat) : PV := (xs[k]?).getD (.tup [])
/-- a block is written -/
def putB (c : List PV) (k : Nat) (b : PV) : List PV := withItem (c ++ List.replicate (k - c.length) (.tup [])) k b
theorem putB_len (c : List PV) (k : Nat) (b : PV) : (putB c k b).length = max c.length (k + 1) := by
  unfold putB
  rw [withItem_len _ _ _ (by simp; omega)]
  simp only [List.length_append, List.length_replicate]; omega
theorem pad_at (c : List PV) (n j : Nat) : cAt (c ++ List.replicate n (.tup [])) j = cAt c j := by
  unfold cAt
  by_cases h : j < c.length
  · rw [List.getElem?_append_left h]
  · rw [List.getElem?_append_right (by omega), List.getElem?_replicate, List.getElem?_eq_none (by omega)]
    split <;> rfl
theorem withItem_at (xs : List PV) (k j : Nat) (b : PV) (hk : k ≤ xs.length) : cAt (withItem xs k b) j = if j = k then b else cAt xs j := by
  unfold cAt withItem
  by_cases h1 : j < k
  · rw [if_neg (by omega), List.append_assoc, List.getElem?_append_left (by rw [List.length_take]; omega), List.getElem?_take_of_lt h1]
  · rw [List.append_assoc, List.getElem?_append_right (by rw [List.length_take]; omega), List.length_take, Nat.min_eq_left hk]
    by_cases h2 : j = k
    · subst h2
      rw [if_pos rfl, Nat.sub_self]; rfl
    · rw [if_neg h2]
      obtain ⟨i, rfl⟩ : ∃ i, j = k + (i + 1) := ⟨j - k - 1, by omega⟩
      have e : k + (i + 1) - k = i + 1 := by omega
      rw [e, List.singleton_append, List.getElem?_cons_succ, List.getElem?_drop]
      congr 2
      omega
theorem putB_at (c : List PV) (k j : Nat) (b : PV) : cAt (putB c k b) j = if j = k then b else cAt c j := by
  unfold putB
  rw [withItem_at _ _ _ _ (by simp; omega), pad_at]
theorem blocks_ext {xs ys : List PV} (hl : xs.length = ys.length) (h : ∀ j, cAt xs j = cAt ys j) : xs = ys := by
  refine List.ext_getElem hl fun i h1 h2 => ?_
  have := h i
  unfold cAt at this
  rw [List.getElem?_eq_getElem h1, List.getElem?_eq_getElem h2] at this
  exact this
/-- blocks written one behind the other -/
def putBs (c : List PV) : List (Nat × PV) → List PV
  | [] => c
  | (k, b) :: r => putBs (putB c k b) r
/-- the last that is written at a place -/
def lastB (j : Nat) : List (Nat × PV) → Option PV
  | [] => none
  | (k, b) :: r => (lastB j r).or (if j = k then some b else none)
def topB : List (Nat × PV) → Nat
  | [] => 0
  | (k, _) :: r => max (k + 1) (topB r)
theorem putBs_len : ∀ (ws : List (Nat × PV)) (c : List PV), (putBs c ws).length = max c.length (topB ws)
  | [], c => by simp [putBs, topB]
  | (k, b) :: r, c => by
    show (putBs (putB c k b) r).length = _
    rw [putBs_len r, putB_len]
    show _ = max c.length (max (k + 1) (topB r))
    omega
theorem putBs_at (j : Nat) : ∀ (ws : List (Nat × PV)) (c : List PV), cAt (putBs c ws) j = (lastB j ws).getD (cAt c j)
  | [], c => rfl
  | (k, b) :: r, c => by
    show cAt (putBs (putB c k b) r) j = ((lastB j r).or (if j = k then some b else none)).getD (cAt c j)
    rw [putBs_at j r, putB_at]
    cases lastB j r with
    | some x => rfl
    | none =>
      show (if j = k then b else cAt c j) = ((if j = k then some b else none : Option PV)).getD (cAt c j)
      split <;> rfl
theorem lastB_take (j : Nat) : ∀ (ws : List (Nat × PV)) (f : Nat), lastB j ws = none → lastB j (ws.take f) = none
  | [], f, h => by simp [lastB]
  | (k, b) :: r, 0, h => by simp [lastB]
  | (k, b) :: r, f + 1, h => by
    have h' : (lastB j r).or (if j = k then some b else none) = none := h
    rw [Option.or_eq_none_iff] at h'
    show (lastB j (r.take f)).or (if j = k then some b else none) = none
    rw [lastB_take j r f h'.1, h'.2]; rfl
theorem topB_take : ∀ (ws : List (Nat × PV)) (f : Nat), topB (ws.take f) ≤ topB ws
  | [], f => by simp [topB]
  | (k, b) :: r, 0 => by simp [topB]
  | (k, b) :: r, f + 1 => by
    have := topB_take r f
    show max (k + 1) (topB (r.take f)) ≤ max (k + 1) (topB r)
    omega
/-- whatever was written of them before: all written is the same -/
theorem putBs_again (ws : List (Nat × PV)) (f : Nat) (c : List PV) : putBs (putBs c (ws.take f)) ws = putBs c ws := by
  refine blocks_ext ?_ fun j => ?_
  · rw [putBs_len, putBs_len, putBs_len]
    have := topB_take ws f
    omega
  · rw [putBs_at, putBs_at, putBs_at]
    cases h : lastB j ws with
    | some x => rfl
    | none => rw [lastB_take j ws f h]; rfl
theorem lastB_self (j : Nat) (ws : List (Nat × PV)) (f : PV → PV) : True := trivial
end Br

set_option autoImplicit false
set_option linter.all false
set_option maxRecDepth 100000
set_option maxHeartbeats 4000000
set_option pp.maxSteps 400
/-! Writes one behind the other; coming up. -/
namespace Br
def cAllWritten (fw : Nat) : CFun := ⟨2, 3, [(.for_ (.nm 2) (.val (.var 1)) [(.asg (.nm 0) (.call fw [(.var 0), (.var 2)]))]), (.ret (.var 0))], true⟩
def cRising : CFun := ⟨1, 3, [(.ife (.cmp .is_ (.idx (.var 0) (.cst (.int 0))) (.cst .non)) [(.ret (.lst []))] []), (.ret (.bin .add (.comp [1, 2] (.tp [(.nm 1), (.nm 2)]) (.val (.slc (.idx (.var 0) (.cst (.int 1))) none (some (.idx (.var 0) (.cst (.int 0)))))) none (.tup [(.cst (.str [98, 108, 111, 99, 107])), (.var 1), (.var 2)])) (.lst [(.tup [(.cst (.str [109, 97, 114, 107])), (.cst .non)])])))], true⟩
def cRisen (fa fr : Nat) : CFun := ⟨2, 3, [(.for_ (.nm 2) (.val (.var 1)) [(.asg (.nm 0) (.call fa [(.var 0), (.slc (.call fr [(.var 0)]) none (some (.var 2)))]))]), (.ret (.call fa [(.var 0), (.call fr [(.var 0)])]))], true⟩
def cLawRising : CFun := ⟨1, 2, [(.ife (.cmp .is_ (.idx (.var 0) (.cst (.int 0))) (.cst .non)) [(.ret (.lst []))] []), (.ret (.bin .add (.comp [1] (.nm 1) (.val (.slc (.idx (.var 0) (.cst (.int 1))) none (some (.idx (.var 0) (.cst (.int 0)))))) none (.bin .add (.tup [(.cst (.str [98, 108, 111, 99, 107]))]) (.var 1))) (.lst [(.tup [(.cst (.str [109, 97, 114, 107])), (.cst .non)])])))], true⟩
/-- a disk by its parts -/
structure Dk where
  m : PV
  l : List PV
  c : List PV
def Dk.pv (d : Dk) : PV := .tup [d.m, .tup d.l, .tup d.c]
/-- a right write -/
def wr (d : Dk) : PV → Dk
  | .tup [.str _, a] => ⟨a, d.l, d.c⟩
  | .tup [.str _, .int k, b] => ⟨d.m, d.l, putB d.c k.toNat b⟩
  | .tup [.str _, .int k, b, e] => ⟨d.m, withItem d.l k.toNat (.tup [b, e]), d.c⟩
  | _ => d
def wrs (d : Dk) : List PV → Dk
  | [] => d
  | w :: ws => wrs (wr d w) ws
theorem wr_pv {d : Dk} {w : PV} (h : isWrite d.l.length w = true) : writtenTo d.m d.l d.c w = (wr d w).pv := by
  rcases write_forms h with ⟨a, rfl, _⟩ | ⟨k, b, rfl, _⟩ | ⟨k, j, e, rfl, _⟩ <;> rfl
/-- all can be written, one behind the other -/
def Wrs (d : Dk) : List PV → Prop
  | [] => True
  | w :: ws => isWrite d.l.length w = true ∧ Wrs (wr d w) ws
theorem wr_disk {d : Dk} {w : PV} (hd : isDisk d.pv = true) (h : isWrite d.l.length w = true) : isDisk (wr d w).pv = true := by
  obtain ⟨m', l', c', e, h1, _⟩ := written_disk (m := d.m) (l := d.l) (c := d.c) hd h
  rw [wr_pv h] at e
  rw [e]; exact h1
theorem wrs_disk : ∀ {ws : List PV} {d : Dk}, isDisk d.pv = true → Wrs d ws → isDisk (wrs d ws).pv = true
  | [], _, hd, _ => hd
  | w :: ws, d, hd, h => wrs_disk (ws := ws) (d := wr d w) (wr_disk hd h.1) h.2
theorem dk_len {d : Dk} (hd : isDisk d.pv = true) : d.l.length ≤ 1000 ∧ d.c.length ≤ 1000 := by
  obtain ⟨m, l, c, e, h1, h2, h3, h4, h5, h6⟩ := disk_parts hd
  cases d
  cases e
  exact ⟨h1, h5⟩
section
variable {P : Pg} {n f fw fi fa fr : Nat} {h : CH}
/-- a walk that writes one behind the other -/
theorem loop_wrs {G : Nat → Option PV} {k : Ask} {W : Nat} {f0 : Nat} {x1 : Option VV} (hk : ∀ (d : Dk) w, isDisk d.pv = true → isWrite d.l.length w = true → k f0 [.p d.pv, .p w] h = .ok (.p (wr d w).pv) h) : ∀ (ws : List PV) (d : Dk) (s2 : Option VV), isDisk d.pv = true → Wrs d ws →
    ∃ s3, forLoop none (fun x ρ1 h2 => match putG (.nm 2) x ρ1 with
      | none => .err
      | some ρ2 => evB G k W [.asg (.nm 0) (.call f0 [.var 0, .var 2])] ρ2 h2) ws [some (.p d.pv), x1, s2] h = .ok (.nx [some (.p (wrs d ws).pv), x1, s3]) h
  | [], d, s2, _, _ => ⟨s2, rfl⟩
  | w :: ws, d, s2, hd, hv => by
    have h1 := hk d w hd hv.1
    obtain ⟨s3, e⟩ := loop_wrs (G := G) (W := W) (x1 := x1) hk ws (wr d w) (some (.p w)) (wr_disk hd hv.1) hv.2
    refine ⟨s3, ?_⟩
    have st : ∀ F : PV → Env → CH → Res Fl, forLoop none F (w :: ws) [some (.p d.pv), x1, s2] h = (F w [some (.p d.pv), x1, s2] h).bind fun fl h1 => (match fl with
      | .nx ρ1 => forLoop none F ws ρ1 h1
      | .ct ρ1 => forLoop none F ws ρ1 h1
      | .bk ρ1 => .ok (.nx ρ1) h1
      | .rt v => .ok (.rt v) h1) := fun _ => rfl
    rw [st]
    have body : (match putG (.nm 2) w [some (.p d.pv), x1, s2] with
      | none => (.err : Res Fl)
      | some ρ2 => evB G k W [.asg (.nm 0) (.call f0 [.var 0, .var 2])] ρ2 h) = .ok (.nx [some (.p (wr d w).pv), x1, some (.p w)]) h := by
      simp [h1]
    rw [body]
    exact e
theorem all_written_ok (hF : P.F f = some (cAllWritten fw)) (hk : ∀ (d : Dk) w, isDisk d.pv = true → isWrite d.l.length w = true → callN P n fw [.p d.pv, .p w] h = .ok (.p (wr d w).pv) h) (d : Dk) (ws : List PV) (v : PV) (hv : v = .lst ws ∨ v = .tup ws) (hd : isDisk d.pv = true) (hw : Wrs d ws) :
    callN P (n + 1) f [.p d.pv, .p v] h = .ok (.p (wrs d ws).pv) h := by
  rw [call_eq hF rfl]
  obtain ⟨s3, e⟩ := loop_wrs (h := h) (G := P.G) (k := callN P n) (W := P.W) (f0 := fw) (x1 := some (.p v)) hk ws d none hd hw
  have e2 : evS P.G (callN P n) P.W (.for_ (.nm 2) (.val (.var 1)) [.asg (.nm 0) (.call fw [.var 0, .var 2])]) [some (.p d.pv), some (.p v), none] h = .ok (.nx [some (.p (wrs d ws).pv), some (.p v), s3]) h := by
    rw [for_eq (xs := ws) (h1 := h) (val_eq (h1 := h) (v := v) rfl (by rcases hv with rfl | rfl <;> rfl))]
    exact e
  simp [cAllWritten, startE, e2]
/-! ### rising -/
def blockW : PV → PV
  | .tup [n, c] => .tup [.str tBlock, n, c]
  | _ => .non
def pairB : PV → Nat × PV
  | .tup [.int k, b] => (k.toNat, b)
  | _ => (0, .non)
def noMark : PV := .tup [.str tMark, .non]
def rising (d : Dk) : List PV := match d.m with
  | .int j => (d.l.take j.toNat).map blockW ++ [noMark]
  | _ => []
theorem slot_form {x : PV} (h : isSlot x = true) : ∃ (k : Nat) (b : PV), x = .tup [.int k, b] ∧ k ≤ 999 ∧ isContent b = true := by
  unfold isSlot at h
  split at h
  · rename_i n c
    rw [Bool.and_eq_true] at h
    obtain ⟨h1, h2⟩ := h
    cases n <;> simp [isWhole] at h1
    rename_i i
    obtain ⟨k, rfl⟩ := Int.eq_ofNat_of_zero_le h1.1
    exact ⟨k, c, rfl, by omega, h2⟩
  · cases h
theorem mark_form {l : Nat} {m : PV} (h : isMark l m = true) : m = .non ∨ ∃ j : Nat, m = .int j ∧ 1 ≤ j ∧ j ≤ l := by
  unfold isMark at h
  rw [Bool.or_eq_true] at h
  rcases h with h | h
  · cases m <;> simp [isNon] at h
    exact .inl rfl
  · cases m <;> simp [isWhole] at h
    rename_i i
    obtain ⟨k, rfl⟩ := Int.eq_ofNat_of_zero_le (show 0 ≤ i by omega)
    exact .inr ⟨k, rfl, by omega, by omega⟩
theorem block_write {l : Nat} {x : PV} (h : isSlot x = true) : isWrite l (blockW x) = true := by
  obtain ⟨k, b, rfl, hk, hb⟩ := slot_form h
  simp [blockW, isWrite, tMark, tBlock, isSlot, isWhole, hb]; omega
theorem wrs_append : ∀ (ws vs : List PV) (d : Dk), wrs d (ws ++ vs) = wrs (wrs d ws) vs
  | [], _, _ => rfl
  | w :: ws, vs, d => wrs_append ws vs (wr d w)
theorem Wrs_append : ∀ (ws vs : List PV) (d : Dk), Wrs d ws → Wrs (wrs d ws) vs → Wrs d (ws ++ vs)
  | [], _, _, _, h => h
  | w :: ws, vs, d, h1, h2 => ⟨h1.1, Wrs_append ws vs (wr d w) h1.2 h2⟩
theorem Wrs_take : ∀ (ws : List PV) (f : Nat) (d : Dk), Wrs d ws → Wrs d (ws.take f)
  | [], f, d, _ => by simp [Wrs]
  | w :: ws, 0, d, _ => trivial
  | w :: ws, f + 1, d, h => ⟨h.1, Wrs_take ws f (wr d w) h.2⟩
theorem blocks_run : ∀ (xs : List PV) (d : Dk), (∀ x ∈ xs, isSlot x = true) → Wrs d (xs.map blockW) ∧ wrs d (xs.map blockW) = ⟨d.m, d.l, putBs d.c (xs.map pairB)⟩
  | [], d, _ => ⟨trivial, rfl⟩
  | x :: xs, d, h => by
    have hx := h x List.mem_cons_self
    obtain ⟨k, b, rfl, hk, hb⟩ := slot_form hx
    obtain ⟨i1, i2⟩ := blocks_run xs (wr d (blockW (.tup [.int k, b]))) fun y hy => h y (List.mem_cons_of_mem _ hy)
    exact ⟨⟨block_write hx, i1⟩, i2⟩
theorem disk_mark {d : Dk} (hd : isDisk d.pv = true) : (d.m = .non ∨ ∃ j : Nat, d.m = .int j ∧ 1 ≤ j ∧ j ≤ d.l.length) ∧ ∀ x ∈ d.l, isSlot x = true := by
  obtain ⟨m, l, c, e, h1, h2, h3, h4, h5, h6⟩ := disk_parts hd
  cases d
  cases e
  exact ⟨mark_form h3, h2⟩
theorem rising_run {d : Dk} (hd : isDisk d.pv = true) : Wrs d (rising d) := by
  obtain ⟨hm, hs⟩ := disk_mark hd
  unfold rising
  rcases hm with hm | ⟨j, hm, _, _⟩
  · rw [hm]; trivial
  · rw [hm]
    obtain ⟨i1, i2⟩ := blocks_run (d.l.take (Int.toNat j)) d fun x hx => hs x (List.mem_of_mem_take hx)
    refine Wrs_append _ _ _ i1 ?_
    rw [i2]
    exact ⟨by simp [noMark, isWrite, isMark, isNon], trivial⟩
/-- all falls, then all -/
def up (d : Dk) : List PV → Dk
  | [] => wrs d (rising d)
  | .int f :: fs => up (wrs d ((rising d).take f.toNat)) fs
  | _ => d
theorem wr_mark (d : Dk) : wr d noMark = ⟨.non, d.l, d.c⟩ := rfl
theorem up_eq {T : List PV} {ps : List PV} : ∀ (fs : List PV) (d : Dk), (∀ x ∈ fs, ∃ i : Int, x = .int i) → (∀ x ∈ d.l, isSlot x = true) → ((d.m = .non ∧ d.c = T) ∨ ∃ j : Nat, d.m = .int j ∧ ps = (d.l.take j) ∧ putBs d.c (ps.map pairB) = T) → up d fs = ⟨.non, d.l, T⟩
  | [], d, _, hs, h => by
    show wrs d (rising d) = _
    rcases h with ⟨h1, h2⟩ | ⟨j, h1, h2, h3⟩
    · unfold rising
      rw [h1]
      show d = _
      cases d; cases h1; cases h2; rfl
    · unfold rising
      rw [h1]
      show wrs d ((d.l.take (Int.toNat j)).map blockW ++ [noMark]) = _
      rw [Int.toNat_natCast, wrs_append, (blocks_run (d.l.take j) d fun x hx => hs x (List.mem_of_mem_take hx)).2, ← h2]
      show wr _ noMark = _
      rw [wr_mark, h3]
  | x :: fs, d, hf, hs, h => by
    obtain ⟨i, rfl⟩ := hf x List.mem_cons_self
    have hf' := fun y hy => hf y (List.mem_cons_of_mem _ hy)
    show up (wrs d ((rising d).take i.toNat)) fs = _
    rcases h with ⟨h1, h2⟩ | ⟨j, h1, h2, h3⟩
    · have e : wrs d ((rising d).take i.toNat) = d := by unfold rising; rw [h1]; simp [wrs]
      rw [e]
      exact up_eq (ps := ps) fs d hf' hs (.inl ⟨h1, h2⟩)
    · have e : rising d = ps.map blockW ++ [noMark] := by unfold rising; rw [h1]; show (d.l.take (Int.toNat j)).map blockW ++ _ = _; rw [Int.toNat_natCast, ← h2]
      have hp : ∀ x ∈ ps, isSlot x = true := fun x hx => hs x (List.mem_of_mem_take (by rw [← h2]; exact hx))
      rw [e]
      by_cases hi : i.toNat ≤ ps.length
      · have e2 : (ps.map blockW ++ [noMark]).take i.toNat = (ps.take i.toNat).map blockW := by
          rw [List.take_append_of_le_length (by simpa using hi), List.map_take]
        rw [e2, (blocks_run (ps.take i.toNat) d fun x hx => hp x (List.mem_of_mem_take hx)).2]
        refine up_eq fs _ hf' hs (.inr ⟨j, h1, h2, ?_⟩)
        show putBs (putBs d.c ((ps.take i.toNat).map pairB)) (ps.map pairB) = T
        rw [List.map_take, putBs_again, h3]
      · have e2 : (ps.map blockW ++ [noMark]).take i.toNat = ps.map blockW ++ [noMark] := List.take_of_length_le (by simp; omega)
        rw [e2, wrs_append, (blocks_run ps d hp).2]
        show up (wr _ noMark) fs = _
        rw [wr_mark]
        exact up_eq (ps := ps) fs _ hf' hs (.inl ⟨rfl, h3⟩)
end
end Br

set_option autoImplicit false
set_option linter.all false
set_option maxRecDepth 100000
set_option maxHeartbeats 4000000
set_option pp.maxSteps 400
namespace Br
section
variable {P : Pg} {n f fw fi fa fr : Nat} {h : CH}
theorem map_some {g : PV → PV} (xs : List PV) : xs.filterMap (fun x => some (g x)) = xs.map g := by simp
theorem rising_ok (hF : P.F f = some cRising) (d : Dk) (hd : isDisk d.pv = true) : callN P (n + 1) f [.p d.pv] h = .ok (.p (.lst (rising d))) h := by
  rw [call_eq hF rfl]
  obtain ⟨hm, hs⟩ := disk_mark hd
  obtain ⟨hl1, _⟩ := dk_len hd
  obtain ⟨m, l, c⟩ := d
  rcases hm with hm | ⟨j, hm, j1, j2⟩ <;> simp only at hm hs hl1 <;> subst hm
  · simp [cRising, startE, Dk.pv, idxW, idxP, atI, ixN, cmpW, cmpD, cmpP, isP, isNon, rising]
  · have hj : j ≤ l.length := j2
    have e1 := comp_eqT (G := P.G) (k := callN P n) (own := [1, 2]) (tg := .tp [.nm 1, .nm 2]) (c := none) (it := .val (.slc (.idx (.var 0) (.cst (.int 1))) none (some (.idx (.var 0) (.cst (.int 0)))))) (elt := .tup [.cst (.str [98, 108, 111, 99, 107]), .var 1, .var 2]) (g := fun x => some (blockW x)) (ρ := [some (.p (.tup [.int j, .tup l, .tup c])), none, none]) (h := h) (h1 := h) (xs := l.take j)
      (val_eq (h1 := h) (v := .tup (l.take j)) (by simp [idxW, idxP, atI, ixN, slcW, slcP, bound, cut_to]) rfl) (by rw [List.length_take]; omega) fun x hx => by
        obtain ⟨k, b, rfl, _, _⟩ := slot_form (hs x (List.mem_of_mem_take hx))
        exact ⟨[some (.p (.tup [.int j, .tup l, .tup c])), some (.p (.int k)), some (.p b)], rfl, .inl ⟨_, rfl, rfl, by simp [blockW, tBlock]⟩⟩
    rw [map_some] at e1
    have l1 : min j l.length + 1 ≤ 1000000 := by omega
    simp [cRising, startE, Dk.pv, idxW, idxP, atI, ixN, cmpW, cmpD, cmpP, isP, isNon, rising, e1, binW, binP, l1, noMark, tMark]
theorem law_rising_ok (hF : P.F f = some cLawRising) (d : Dk) (hd : isDisk d.pv = true) : callN P (n + 1) f [.p d.pv] h = .ok (.p (.lst (rising d))) h := by
  rw [call_eq hF rfl]
  obtain ⟨hm, hs⟩ := disk_mark hd
  obtain ⟨hl1, _⟩ := dk_len hd
  obtain ⟨m, l, c⟩ := d
  rcases hm with hm | ⟨j, hm, j1, j2⟩ <;> simp only at hm hs hl1 <;> subst hm
  · simp [cLawRising, startE, Dk.pv, idxW, idxP, atI, ixN, cmpW, cmpD, cmpP, isP, isNon, rising]
  · have hj : j ≤ l.length := j2
    have e1 := comp_eqT (G := P.G) (k := callN P n) (own := [1]) (tg := .nm 1) (c := none) (it := .val (.slc (.idx (.var 0) (.cst (.int 1))) none (some (.idx (.var 0) (.cst (.int 0)))))) (elt := .bin .add (.tup [.cst (.str [98, 108, 111, 99, 107])]) (.var 1)) (g := fun x => some (blockW x)) (ρ := [some (.p (.tup [.int j, .tup l, .tup c])), none]) (h := h) (h1 := h) (xs := l.take j)
      (val_eq (h1 := h) (v := .tup (l.take j)) (by simp [idxW, idxP, atI, ixN, slcW, slcP, bound, cut_to]) rfl) (by rw [List.length_take]; omega) fun x hx => by
        obtain ⟨k, b, rfl, _, _⟩ := slot_form (hs x (List.mem_of_mem_take hx))
        exact ⟨[some (.p (.tup [.int j, .tup l, .tup c])), some (.p (.tup [.int k, b]))], rfl, .inl ⟨_, rfl, rfl, by simp [blockW, tBlock, binW, binP]⟩⟩
    rw [map_some] at e1
    have l1 : min j l.length + 1 ≤ 1000000 := by omega
    simp [cLawRising, startE, Dk.pv, idxW, idxP, atI, ixN, cmpW, cmpD, cmpP, isP, isNon, rising, e1, binW, binP, l1, noMark, tMark]
theorem up_disk : ∀ (fs : List PV) (d : Dk), isDisk d.pv = true → isDisk (up d fs).pv = true
  | [], d, hd => wrs_disk hd (rising_run hd)
  | x :: fs, d, hd => by
    cases x with
    | int i => exact up_disk fs _ (wrs_disk hd (Wrs_take _ _ _ (rising_run hd)))
    | _ => exact hd
theorem loop_up {G : Nat → Option PV} {k : Ask} {W : Nat} {x1 : Option VV} (hr : ∀ d : Dk, isDisk d.pv = true → k fr [.p d.pv] h = .ok (.p (.lst (rising d))) h) (ha : ∀ (d : Dk) ws, isDisk d.pv = true → Wrs d ws → k fa [.p d.pv, .p (.lst ws)] h = .ok (.p (wrs d ws).pv) h) :
    ∀ (fs : List PV) (d : Dk) (s2 : Option VV), (∀ x ∈ fs, ∃ i : Nat, x = .int i) → isDisk d.pv = true → ∃ d' s3, isDisk d'.pv = true ∧ (up d' [] = up d fs) ∧ forLoop none (fun x ρ1 h2 => match putG (.nm 2) x ρ1 with
      | none => .err
      | some ρ2 => evB G k W [.asg (.nm 0) (.call fa [.var 0, .slc (.call fr [.var 0]) none (some (.var 2))])] ρ2 h2) fs [some (.p d.pv), x1, s2] h = .ok (.nx [some (.p d'.pv), x1, s3]) h
  | [], d, s2, _, hd => ⟨d, s2, hd, rfl, rfl⟩
  | x :: fs, d, s2, hf, hd => by
    obtain ⟨i, rfl⟩ := hf x List.mem_cons_self
    have hw := Wrs_take _ i _ (rising_run hd)
    have hd2 := wrs_disk hd hw
    obtain ⟨d', s3, h1, h2, h3⟩ := loop_up (G := G) (W := W) (x1 := x1) hr ha fs (wrs d ((rising d).take i)) (some (.p (.int i))) (fun y hy => hf y (List.mem_cons_of_mem _ hy)) hd2
    refine ⟨d', s3, h1, h2, ?_⟩
    have st : ∀ F : PV → Env → CH → Res Fl, forLoop none F (.int i :: fs) [some (.p d.pv), x1, s2] h = (F (.int i) [some (.p d.pv), x1, s2] h).bind fun fl h1 => (match fl with
      | .nx ρ1 => forLoop none F fs ρ1 h1
      | .ct ρ1 => forLoop none F fs ρ1 h1
      | .bk ρ1 => .ok (.nx ρ1) h1
      | .rt v => .ok (.rt v) h1) := fun _ => rfl
    rw [st]
    have body : (match putG (.nm 2) (.int i) [some (.p d.pv), x1, s2] with
      | none => (.err : Res Fl)
      | some ρ2 => evB G k W [.asg (.nm 0) (.call fa [.var 0, .slc (.call fr [.var 0]) none (some (.var 2))])] ρ2 h) = .ok (.nx [some (.p (wrs d ((rising d).take i)).pv), x1, some (.p (.int i))]) h := by
      simp [hr d hd, slcW, slcP, bound, cut_to, ha d _ hd hw]
    rw [body]
    exact h3
theorem risen_ok (hF : P.F f = some (cRisen fa fr)) (hr : ∀ d : Dk, isDisk d.pv = true → callN P n fr [.p d.pv] h = .ok (.p (.lst (rising d))) h) (ha : ∀ (d : Dk) ws, isDisk d.pv = true → Wrs d ws → callN P n fa [.p d.pv, .p (.lst ws)] h = .ok (.p (wrs d ws).pv) h) (d : Dk) (fs : List PV) (hd : isDisk d.pv = true) (hf : ∀ x ∈ fs, ∃ i : Nat, x = .int i) :
    callN P (n + 1) f [.p d.pv, .p (.tup fs)] h = .ok (.p (up d fs).pv) h := by
  rw [call_eq hF rfl]
  obtain ⟨d', s3, h1, h2, h3⟩ := loop_up (h := h) (G := P.G) (k := callN P n) (W := P.W) (x1 := some (.p (.tup fs))) hr ha fs d none hf hd
  have e2 : evS P.G (callN P n) P.W (.for_ (.nm 2) (.val (.var 1)) [.asg (.nm 0) (.call fa [.var 0, .slc (.call fr [.var 0]) none (some (.var 2))])]) [some (.p d.pv), some (.p (.tup fs)), none] h = .ok (.nx [some (.p d'.pv), some (.p (.tup fs)), s3]) h := by
    rw [for_eq (xs := fs) (h1 := h) (val_eq (h1 := h) (v := .tup fs) rfl rfl)]
    exact h3
  have e3 := ha d' _ h1 (rising_run h1)
  have e4 : wrs d' (rising d') = up d fs := h2
  rw [e4] at e3
  simp [cRisen, startE, e2, hr d' h1, e3]
end
end Br

set_option autoImplicit false
set_option linter.all false
set_option maxRecDepth 100000
set_option maxHeartbeats 4000000
set_option pp.maxSteps 400
/-! What is drawn is right; falls; sizes. -/
namespace Br
theorem cont_true {v : PV} (h : Cont v) : isContent v = true := by
  obtain ⟨xs, rfl, h1, h2⟩ := h
  have h3 : xs.length ≤ 512 := by omega
  have h4 : ∀ x ∈ xs, isWhole x 0 255 = true := fun x hx => by
    obtain ⟨r, rfl, r0, r1⟩ := h2 x hx
    simp [isWhole]; omega
  simpa [isContent, h3] using h4
theorem drawn_disk {v : PV} (h : IsD v) : ∃ d : Dk, v = d.pv ∧ isDisk d.pv = true ∧ d.l.length ≤ 4 ∧ d.c.length ≤ 4 := by
  obtain ⟨m, l, c, rfl, hl, hs, hm, c1, c4, hc⟩ := h.ex
  refine ⟨⟨m, l, c⟩, rfl, disk_of (show l.length ≤ 1000 by omega) (fun y hy => ?_) ?_ c1 (show c.length ≤ 1000 by omega) (fun y hy => cont_true (hc y hy)), hl, c4⟩
  · obtain ⟨r, d, rfl, ⟨j, rfl, j0, j1⟩, hd⟩ := hs y hy
    simp [isSlot, isWhole, cont_true hd]; omega
  · rcases hm with rfl | ⟨j, rfl, j0, j1⟩
    · rfl
    · simp [isMark, isNon, isWhole]; omega
def cFalls (fr fs : Nat) : CFun := ⟨2, 3, [(.ret (.bi .tuple [(.comp [2] (.nm 2) (.rng [(.call fs [(.var 0), (.lst [(.cst (.int 0)), (.cst (.int 1)), (.cst (.int 1)), (.cst (.int 2)), (.cst (.int 3))])])]) none (.call fr [(.var 0), (.bin .add (.var 1) (.cst (.int 1)))]))]))], true⟩
/-- falls -/
def FallsUpTo (m : Nat) (v : PV) : Prop := ∃ fs : List PV, v = .tup fs ∧ fs.length ≤ 3 ∧ ∀ x ∈ fs, ∃ i : Nat, x = .int i ∧ i ≤ m
def cFitsFalls (fw ft g g2 : Nat) : CFun := ⟨1, 2, [(.ret (.and_ [(.call ft [(.var 0), (.cst (.int 0)), (.glo g)]), (.bi .all [(.comp [1] (.nm 1) (.val (.var 0)) none (.call fw [(.var 1), (.cst (.int 0)), (.glo g2)]))])]))], true⟩
section
variable {P : Pg} {n fr fs f fw ft g g2 : Nat} {h : CH}
theorem falls_ok {m : Nat} (hF : P.F f = some (cFalls fr fs)) (hS : P.F fs = some (cSome fr)) (hR : P.F fr = some cRoll) (hm : m ≤ 1000) : Gen (callN P (n + 3) f [.r 0, .p (.int (m : Nat))]) (FallsUpTo m) := by
  intro a b t hc
  rw [call_eq hF rfl]
  obtain ⟨v, a1, b1, h1, q1, e1⟩ := some_ok (P := P) (n := n) hS hR (xs := [.int 0, .int 1, .int 1, .int 2, .int 3]) (by simp) (by decide) a b t hc
  obtain ⟨j, rfl, hj⟩ : ∃ j : Int, v = .int j ∧ 0 ≤ j ∧ j ≤ 3 := by
    simp at q1
    rcases q1 with rfl | rfl | rfl | rfl | rfl <;> exact ⟨_, rfl, by decide, by decide⟩
  have hi : evI P.G (callN P (n + 2)) (.rng [(.call fs [(.var 0), (.lst [(.cst (.int 0)), (.cst (.int 1)), (.cst (.int 1)), (.cst (.int 2)), (.cst (.int 3))])])]) [some (.r 0), some (.p (.int (m : Nat))), none] (Cup a b :: t) = .ok (none, rngL 0 j) (Cup a1 b1 :: t) := by
    refine rng_eq ?_ (by omega)
    simp [e1]
  obtain ⟨ys, a2, b2, h2, q2, l2, e2⟩ := comp_gen (own := [2]) (i := 2) (elt := .call fr [(.var 0), (.bin .add (.var 1) (.cst (.int 1)))]) (Q := Below ((m : Nat) + 1)) hi h1 (by simp) (by rw [rng_len]; omega) (fun x _ a b t hc => by
    obtain ⟨w, a3, b3, h3, q3, e3⟩ := roll_ok (P := P) (n := n + 1) hR (m := (m : Nat) + 1) (by omega) (by omega) a b t hc
    exact ⟨w, a3, b3, h3, q3, by simp [e3, wipe, binW, binP]⟩)
  refine ⟨.tup ys, a2, b2, h2, ⟨ys, rfl, ?_, fun x hx => ?_⟩, ?_⟩
  · rw [l2, rng_len]; omega
  · obtain ⟨r, rfl, r0, r1⟩ := q2 x hx
    obtain ⟨i, rfl⟩ := Int.eq_ofNat_of_zero_le r0
    exact ⟨i, rfl, by omega⟩
  · exact (ret_eq (tuple_eq e2)).trans (by simp [cFalls])
theorem fits_falls_ok {m : Nat} (hF : P.F f = some (cFitsFalls fw ft g g2)) (hw : P.F fw = some cIsWhole) (ht : P.F ft = some cIsTuple) (hg : P.G g = some (.int 10)) (hg2 : P.G g2 = some (.int 10000)) {v : PV} (hv : FallsUpTo m v) (hm : m ≤ 10000) : callN P (n + 2) f [.p v] h = .ok (.p (.bl true)) h := by
  rw [call_eq hF rfl]
  obtain ⟨xs, rfl, hl, hx⟩ := hv
  have e1 := is_tuple_ok (n := n) (h := h) ht (.tup xs) 0 10
  have hv : isTup (.tup xs) 0 10 = true := by simp [isTup]; omega
  have e2 := comp_eq (G := P.G) (k := callN P (n + 1)) (own := [1]) (i := 1) (c := none) (it := .val (.var 0)) (elt := .call fw [.var 1, .cst (.int 0), .glo g2]) (g := fun x => some (.bl (isWhole x 0 10000))) (ρ := [some (.p (.tup xs)), none]) (h := h) (xs := xs) (val_eq (v := .tup xs) rfl rfl) (by simp) (by omega)
    fun x _ => .inl ⟨_, rfl, rfl, by simp [wipe, hg2, is_whole_ok hw]⟩
  have e3 : xs.all (fun x => isWhole x 0 10000) = true := List.all_eq_true.mpr fun x hxx => by
    obtain ⟨i, rfl, hi⟩ := hx x hxx
    simp [isWhole]; omega
  simp [cFitsFalls, startE, hg, e1, hv, e2, biW, lookAll, biP, blsOf_map2]
  simpa using e3
end
mutual
theorem dle_succ : ∀ (x : PV) (d : Nat), x.dle d = true → x.dle (d + 1) = true
  | .non, _, _ => rfl
  | .bl _, _, _ => rfl
  | .int _, _, _ => rfl
  | .str _, _, _ => rfl
  | .tup xs, 0, h => by simp [PV.dle] at h
  | .lst xs, 0, h => by simp [PV.dle] at h
  | .tup xs, d + 1, h => by simp only [PV.dle] at h ⊢; exact dleL_succ xs d h
  | .lst xs, d + 1, h => by simp only [PV.dle] at h ⊢; exact dleL_succ xs d h
theorem dleL_succ : ∀ (xs : List PV) (d : Nat), PV.dleL d xs = true → PV.dleL (d + 1) xs = true
  | [], _, _ => rfl
  | x :: xs, d, h => by
    simp only [PV.dleL, Bool.and_eq_true] at h ⊢
    exact ⟨dle_succ x d h.1, dleL_succ xs d h.2⟩
end
theorem dle_mono {x : PV} {d : Nat} (h : x.dle d = true) : x.dle (d + 1) = true := dle_succ x d h
theorem sz_blockW {x : PV} (h : isSlot x = true) : szP (blockW x) ≤ 11400 ∧ ∀ d, (blockW x).dle (d + 2) = true := by
  obtain ⟨k, b, rfl, hk, hb⟩ := slot_form h
  have h2 := sz_content hb
  have h3 : szP (.int (k : Int)) ≤ 20 := (sz_whole (x := .int k) (lo := 0) (hi := 999) (by simp [isWhole]; omega) (by decide) (by decide)).1
  refine ⟨?_, fun d => ?_⟩
  · simp only [blockW, szP, szL, tBlock, List.length_cons, List.length_nil] at h3 ⊢
    omega
  · simp only [blockW, PV.dle, PV.dleL, h2.2]; rfl
theorem shown_rising {d : Dk} (hd : isDisk d.pv = true) : shownOk (.tup (rising d)) = true := by
  obtain ⟨hm, hs⟩ := disk_mark hd
  have hl := (dk_len hd).1
  unfold rising
  rcases hm with hm | ⟨j, hm, _, _⟩
  · rw [hm]
    show shownOk (.tup []) = true
    decide
  · rw [hm]
    have z1 : ∀ x ∈ (d.l.take (Int.toNat j)).map blockW ++ [noMark], szP x ≤ 11400 ∧ x.dle 58 = true := fun x hx => by
      rw [List.mem_append] at hx
      rcases hx with hx | hx
      · obtain ⟨y, hy, rfl⟩ := List.mem_map.mp hx
        have := sz_blockW (hs y (List.mem_of_mem_take hy))
        exact ⟨this.1, this.2 56⟩
      · rw [List.mem_singleton.mp hx]; decide
    have z2 := szL_le (B := 11400) fun x hx => (z1 x hx).1
    have z3 : ((d.l.take (Int.toNat j)).map blockW ++ [noMark]).length ≤ 1001 := by simp; omega
    unfold shownOk
    rw [Bool.and_eq_true]
    refine ⟨decide_eq_true ?_, ?_⟩
    · simp only [szP]
      have := Nat.mul_le_mul_right (11400 + 2) z3
      omega
    · simp only [PV.dle]
      exact dleL_of fun x hx => dle_mono (z1 x hx).2
end Br

set_option autoImplicit false
set_option linter.all false
set_option maxRecDepth 100000
set_option maxHeartbeats 4000000
set_option pp.maxSteps 400
/-! Commits. -/
namespace Br
def cAtF : CFun := ⟨2, 2, [(.ret (.ife (.cmp .lt (.var 1) (.bi .len [(.var 0)])) (.idx (.var 0) (.var 1)) (.tup [])))], true⟩
def cTurned (fa : Nat) : CFun := ⟨2, 4, [(.asg (.nm 2) (.rng [(.bi .max [(.bi .len [(.var 0)]), (.bi .len [(.var 1)])])])), (.ret (.comp [3] (.nm 3) (.val (.var 2)) (some (.cmp .ne (.call fa [(.var 0), (.var 3)]) (.call fa [(.var 1), (.var 3)]))) (.tup [(.var 3), (.call fa [(.var 1), (.var 3)])])))], true⟩
def cWritesFor (ft : Nat) : CFun := ⟨2, 7, [(.asg (.nm 2) (.call ft [(.idx (.var 0) (.cst (.int 2))), (.var 1)])), (.ife (.cmp .eq (.var 2) (.lst [])) [(.ret (.lst []))] []), (.asg (.nm 3) (.thaw (.comp [4, 5, 6] (.tp [(.nm 4), (.tp [(.nm 5), (.nm 6)])]) (.enm (.var 2)) none (.tup [(.cst (.str [108, 111, 103])), (.var 4), (.var 5), (.var 6)])))), (.exp (.mth .append (.var 3) [(.tup [(.cst (.str [109, 97, 114, 107])), (.bi .len [(.var 2)])])])), (.ret (.bin .add (.bin .add (.var 3) (.comp [5, 6] (.tp [(.nm 5), (.nm 6)]) (.val (.var 2)) none (.tup [(.cst (.str [98, 108, 111, 99, 107])), (.var 5), (.var 6)]))) (.lst [(.tup [(.cst (.str [109, 97, 114, 107])), (.cst .non)])])))], true⟩
def cAlike (fa : Nat) : CFun := ⟨2, 3, [(.ret (.cmp .eq (.comp [2] (.nm 2) (.rng [(.bi .max [(.bi .len [(.var 0)]), (.bi .len [(.var 1)])])]) (some (.cmp .ne (.call fa [(.var 0), (.var 2)]) (.call fa [(.var 1), (.var 2)]))) (.var 2)) (.lst [])))], true⟩
def cLawCommit (fa : Nat) : CFun := ⟨2, 8, [(.par [2, 3] [(.idx (.var 0) (.cst (.int 2))), (.thaw (.lst []))]), (.asg (.nm 4) (.comp [5] (.nm 5) (.rng [(.bi .max [(.bi .len [(.var 2)]), (.bi .len [(.var 1)])])]) (some (.cmp .ne (.call fa [(.var 2), (.var 5)]) (.call fa [(.var 1), (.var 5)]))) (.var 5))), (.for_ (.tp [(.nm 5), (.nm 6)]) (.enm (.var 4)) [(.exp (.mth .append (.var 3) [(.tup [(.cst (.str [108, 111, 103])), (.var 5), (.var 6), (.call fa [(.var 1), (.var 6)])])]))]), (.asg (.nm 7) (.comp [6] (.nm 6) (.val (.var 4)) none (.tup [(.cst (.str [98, 108, 111, 99, 107])), (.var 6), (.call fa [(.var 1), (.var 6)])]))), (.ret (.ife (.cmp .ne (.var 4) (.lst [])) (.bin .add (.bin .add (.bin .add (.var 3) (.lst [(.tup [(.cst (.str [109, 97, 114, 107])), (.bi .len [(.var 4)])])])) (.var 7)) (.lst [(.tup [(.cst (.str [109, 97, 114, 107])), (.cst .non)])])) (.lst [])))], true⟩
/-- blocks that are other ones then -/
def turned (A B : List PV) : List Nat := (List.range (max A.length B.length)).filter fun k => !(cAt A k).eqv (cAt B k)
def logsFrom (B : List PV) : Nat → List Nat → List PV
  | _, [] => []
  | i, k :: r => .tup [.str tLog, .int (i : Nat), .int (k : Nat), cAt B k] :: logsFrom B (i + 1) r
def slotsOf (B : List PV) (T : List Nat) : List PV := T.map fun k => .tup [.int (k : Nat), cAt B k]
def commit (A B : List PV) : List PV :=
  if (turned A B).isEmpty then [] else logsFrom B 0 (turned A B) ++ [.tup [.str tMark, .int ((turned A B).length : Nat)]] ++ (slotsOf B (turned A B)).map blockW ++ [noMark]
theorem sift_map {α : Type} {p : Nat → Bool} {f : Nat → PV} {g : PV → Option PV} (hg : ∀ k : Nat, g (.int (k : Nat)) = if p k then some (f k) else none) : ∀ xs : List Nat, (xs.map fun k => PV.int (k : Nat)).filterMap g = (xs.filter p).map f
  | [] => rfl
  | x :: xs => by
    have ih := sift_map (α := α) hg xs
    rw [List.map_cons, List.filterMap_cons, hg, List.filter_cons]
    cases p x
    · exact ih
    · exact congrArg _ ih
theorem rng_nat (n : Nat) : rngL 0 (n : Int) = (List.range n).map fun k => PV.int (k : Nat) := by
  unfold rngL
  rw [show ((n : Int) - 0).toNat = n by omega]
  refine List.map_congr_left fun k _ => ?_
  rw [Int.zero_add]
theorem maxI (a b : Nat) : (if ((b : Nat) : Int) > (a : Nat) then ((b : Nat) : Int) else (a : Nat)) = ((max a b : Nat) : Int) := by
  split <;> omega
def Conts (A : List PV) : Prop := ∀ x ∈ A, isContent x = true
theorem cAt_cont {A : List PV} (h : Conts A) (k : Nat) : isContent (cAt A k) = true := by
  unfold cAt
  cases e : A[k]? with
  | none => rfl
  | some x => exact h x (List.mem_of_getElem? e)
theorem cont_dle {x : PV} (h : isContent x = true) : x.dle 60 = true := (sz_content h).2 59
theorem ne_cont {x y : PV} (h : isContent x = true) : cmpP .ne x y = some (!x.eqv y) := by
  simp [cmpP, eqP, deepC, cont_dle h]
section
variable {P : Pg} {n f ft fa : Nat} {h : CH}
theorem rngE_eq {G : Nat → Option PV} {k : Ask} {ρ : Env} {h1 : CH} {e : CE} {j : Int} (he : evE G k e ρ h = .ok (.p (.int j)) h1) (hj : -(2 ^ 62) ≤ j ∧ j < 2 ^ 62) : evE G k (.rng [e]) ρ h = .ok (.g 0 j) h1 := by
  unfold evE evEs
  rw [he]
  simp only [evEs, ok_bind, pursOf, purP, Option.bind_some, Option.map_some, rangeOf, if_pos hj]
theorem at_ok (hF : P.F f = some cAtF) (A : List PV) (k : Nat) : callN P (n + 1) f [.p (.tup A), .p (.int (k : Nat))] h = .ok (.p (cAt A k)) h := by
  rw [call_eq hF rfl]
  by_cases hk : k < A.length
  · have h1 : (k : Int) < (A.length : Int) := by omega
    simp [cAtF, startE, biW, lookAll, biP, lenP, cmpW, cmpD, cmpP, ltP, h1, hk, idxW, idxP, atI, ixN, cAt, List.getElem?_eq_getElem hk]
  · have h1 : ¬ (k : Int) < (A.length : Int) := by omega
    simp [cAtF, startE, biW, lookAll, biP, lenP, cmpW, cmpD, cmpP, ltP, h1, cAt, List.getElem?_eq_none (Nat.le_of_not_lt hk)]
theorem turned_ok (hF : P.F f = some (cTurned fa)) (hA : P.F fa = some cAtF) (A B : List PV) (ha : Conts A) (hl : A.length ≤ 1000) (hl2 : B.length ≤ 1000) : callN P (n + 2) f [.p (.tup A), .p (.tup B)] h = .ok (.p (.lst (slotsOf B (turned A B)))) h := by
  rw [call_eq hF rfl]
  have hm : max A.length B.length ≤ 1000 := by omega
  have e0 : evI P.G (callN P (n + 1)) (.val (.var 2)) [some (.p (.tup A)), some (.p (.tup B)), some (.g 0 ((max A.length B.length : Nat) : Int)), none] h = .ok (none, (List.range (max A.length B.length)).map fun k => PV.int (k : Nat)) h := by
    unfold evI
    rw [← rng_nat]; rfl
  have e1 := comp_eqT (G := P.G) (k := callN P (n + 1)) (own := [3]) (tg := .nm 3) (it := .val (.var 2)) (c := some (.cmp .ne (.call fa [(.var 0), (.var 3)]) (.call fa [(.var 1), (.var 3)]))) (elt := .tup [(.var 3), (.call fa [(.var 1), (.var 3)])]) (g := fun x => match x with | .int i => (if !(cAt A i.toNat).eqv (cAt B i.toNat) then some (.tup [.int i, cAt B i.toNat]) else none) | _ => none) e0 (by simp; omega) fun x hx => by
    obtain ⟨k, _, rfl⟩ := List.mem_map.mp hx
    refine ⟨[some (.p (.tup A)), some (.p (.tup B)), some (.g 0 ((max A.length B.length : Nat) : Int)), some (.p (.int (k : Nat)))], rfl, ?_⟩
    have t1 := at_ok (n := n) (h := h) hA A k
    have t2 := at_ok (n := n) (h := h) hA B k
    have t3 := ne_cont (y := cAt B k) (cAt_cont ha k)
    cases hq : (cAt A k).eqv (cAt B k) with
    | true => exact .inr ⟨by simp [hq], by simp [t1, t2, cmpW, cmpD, t3, hq]⟩
    | false => exact .inl ⟨.tup [.int k, cAt B k], by simp [hq], by simp [t1, t2, cmpW, cmpD, t3, hq], by simp [t2]⟩
  rw [sift_map (α := Nat) (p := fun k => !(cAt A k).eqv (cAt B k)) (f := fun k => .tup [.int (k : Nat), cAt B k]) fun k => by simp] at e1
  have e2 := rngE_eq (G := P.G) (k := callN P (n + 1)) (h := h) (h1 := h) (e := .bi .max [(.bi .len [(.var 0)]), (.bi .len [(.var 1)])]) (ρ := [some (.p (.tup A)), some (.p (.tup B)), none, none]) (j := ((max A.length B.length : Nat) : Int)) (by simp [biW, lookAll, biP, lenP]; omega) (by omega)
  simp [cTurned, startE, e2]
  rw [e1]
  simp [slotsOf, turned]
theorem enm_log (B : List PV) : ∀ (T : List Nat) (i : Nat), (enmL i (slotsOf B T)).filterMap (fun x => match x with
    | .tup [a, .tup [n, c]] => some (.tup [.str tLog, a, n, c])
    | _ => none) = logsFrom B i T
  | [], _ => rfl
  | k :: T, i => by
    show ((.tup [.int (i : Nat), .tup [.int (k : Nat), cAt B k]] :: enmL (i + 1) (slotsOf B T)) : List PV).filterMap _ = _
    rw [List.filterMap_cons]
    simp only
    rw [enm_log B T (i + 1)]
    rfl
theorem enmL_mem {x : PV} : ∀ {xs : List PV} {i : Nat}, x ∈ enmL i xs → ∃ j y, x = .tup [.int (j : Nat), y] ∧ y ∈ xs
  | [], _, h => by cases h
  | y :: ys, i, h => by
    have h' : x ∈ (.tup [.int (i : Nat), y] :: enmL (i + 1) ys : List PV) := h
    rcases List.mem_cons.mp h' with e | e
    · exact ⟨i, y, e, List.mem_cons_self⟩
    · obtain ⟨j, z, e1, e2⟩ := enmL_mem e
      exact ⟨j, z, e1, List.mem_cons_of_mem _ e2⟩
theorem enmL_len : ∀ (xs : List PV) (i : Nat), (enmL i xs).length = xs.length
  | [], _ => rfl
  | x :: xs, i => by show (enmL (i + 1) xs).length + 1 = _; rw [enmL_len xs]; rfl
theorem logs_len (B : List PV) : ∀ (T : List Nat) (i : Nat), (logsFrom B i T).length = T.length
  | [], _ => rfl
  | k :: T, i => by show (logsFrom B (i + 1) T).length + 1 = _; rw [logs_len B T]; rfl
theorem turned_len (A B : List PV) : (turned A B).length ≤ max A.length B.length := by
  unfold turned
  exact Nat.le_trans (List.length_filter_le _ _) (by simp)
theorem slots_mem {B : List PV} {T : List Nat} {x : PV} (h : x ∈ slotsOf B T) : ∃ k : Nat, x = .tup [.int (k : Nat), cAt B k] ∧ k ∈ T := by
  unfold slotsOf at h
  obtain ⟨k, hk, rfl⟩ := List.mem_map.mp h
  exact ⟨k, rfl, hk⟩
theorem writes_for_ok (hF : P.F f = some (cWritesFor ft)) (hT : P.F ft = some (cTurned fa)) (hA : P.F fa = some cAtF) (m l : PV) (A B : List PV) (ha : Conts A) (hl : A.length ≤ 1000) (hl2 : B.length ≤ 1000) : callN P (n + 3) f [.p (.tup [m, l, .tup A]), .p (.tup B)] h = .ok (.p (.lst (commit A B))) h := by
  rw [call_eq hF rfl]
  have t := turned_ok (n := n) (h := h) hT hA A B ha hl hl2
  have hT2 := turned_len A B
  unfold commit
  generalize turned A B = T at t hT2 ⊢
  cases T with
  | nil =>
    have t' : callN P (n + 2) ft [.p (.tup A), .p (.tup B)] h = .ok (.p (.lst [])) h := t
    simp [cWritesFor, startE, idxW, idxP, atI, ixN, t', cmpW, cmpD, cmpP, eqP_nil]
  | cons k T =>
    have sl : slotsOf B (k :: T) ≠ [] := by simp [slotsOf]
    have hlen : (slotsOf B (k :: T)).length = (k :: T).length := by simp [slotsOf]
    have se : (slotsOf B (k :: T)).isEmpty = false := by simp [slotsOf]
    generalize hS : slotsOf B (k :: T) = S at t sl hlen se
    have e1 := comp_eqT (G := P.G) (k := callN P (n + 2)) (own := [4, 5, 6]) (tg := .tp [.nm 4, .tp [.nm 5, .nm 6]]) (c := none) (it := .enm (.var 2)) (elt := .tup [(.cst (.str [108, 111, 103])), (.var 4), (.var 5), (.var 6)]) (g := fun x => match x with
        | .tup [a, .tup [n, c]] => some (.tup [.str tLog, a, n, c])
        | _ => none) (ρ := [some (.p (.tup [m, l, .tup A])), some (.p (.tup B)), some (.p (.lst S)), none, none, none, none]) (h := h) (h1 := h) (xs := enmL 0 S) rfl (by rw [enmL_len, hlen]; omega) fun x hx => by
      obtain ⟨j, y, rfl, hy⟩ := enmL_mem hx
      rw [← hS] at hy
      obtain ⟨k', rfl, _⟩ := slots_mem hy
      exact ⟨[some (.p (.tup [m, l, .tup A])), some (.p (.tup B)), some (.p (.lst S)), none, some (.p (.int j)), some (.p (.int k')), some (.p (cAt B k'))], rfl, .inl ⟨_, rfl, rfl, by simp [tLog]⟩⟩
    rw [← hS, enm_log, hS] at e1
    have e2 := comp_eqT (G := P.G) (k := callN P (n + 2)) (own := [5, 6]) (tg := .tp [.nm 5, .nm 6]) (c := none) (it := .val (.var 2)) (elt := .tup [(.cst (.str [98, 108, 111, 99, 107])), (.var 5), (.var 6)]) (g := fun x => some (blockW x)) (ρ := [some (.p (.tup [m, l, .tup A])), some (.p (.tup B)), some (.p (.lst S)), some (.r h.length), none, none, none]) (h := h ++ [.lst (logsFrom B 0 (k :: T) ++ [PV.tup [.str tMark, .int ((k :: T).length : Nat)]])]) (xs := S) (val_eq (v := .lst S) rfl rfl) (by rw [hlen]; omega) fun x hx => by
      rw [← hS] at hx
      obtain ⟨k', rfl, _⟩ := slots_mem hx
      exact ⟨[some (.p (.tup [m, l, .tup A])), some (.p (.tup B)), some (.p (.lst S)), some (.r h.length), none, some (.p (.int k')), some (.p (cAt B k'))], rfl, .inl ⟨_, rfl, rfl, by simp [blockW, tBlock]⟩⟩
    rw [map_some] at e2
    have l0 := logs_len B (k :: T) 0
    have hT3 : T.length + 1 ≤ 1000 := by simp only [List.length_cons] at hT2; omega
    have e3 : evE P.G (callN P (n + 2)) (.mth .append (.var 3) [(.tup [(.cst (.str [109, 97, 114, 107])), (.bi .len [(.var 2)])])]) [some (.p (.tup [m, l, .tup A])), some (.p (.tup B)), some (.p (.lst S)), some (.r h.length), none, none, none] (h ++ [.lst (logsFrom B 0 (k :: T))]) = .ok (.p .non) (h ++ [.lst (logsFrom B 0 (k :: T) ++ [PV.tup [.str tMark, .int ((k :: T).length : Nat)]])]) := by
      have n2 : (logsFrom B 0 (k :: T)).length < 1000000 := by rw [l0]; omega
      unfold evE
      simp [look, mthW, n2, biW, lookAll, biP, lenP, hlen, tMark]
    have q1 : (k :: T).isEmpty = false := rfl
    have l1 : (logsFrom B 0 (k :: T) ++ [PV.tup [.str tMark, .int ((k :: T).length : Nat)]]).length + (S.map blockW).length ≤ 1000000 := by simp only [List.length_append, l0, List.length_map, hlen, List.length_cons, List.length_nil]; omega
    have l2 : (logsFrom B 0 (k :: T) ++ [PV.tup [.str tMark, .int ((k :: T).length : Nat)]] ++ S.map blockW).length + 1 ≤ 1000000 := by simp only [List.length_append, l0, List.length_map, hlen, List.length_cons, List.length_nil]; omega
    rw [q1, if_neg Bool.false_ne_true]
    generalize hL : logsFrom B 0 (k :: T) = L at e1 e2 e3 l1 l2
    generalize hM : L ++ [PV.tup [.str tMark, .int ((k :: T).length : Nat)]] = M at e2 e3 l1 l2 ⊢
    generalize hB : S.map blockW = Bl at e2 l1 l2 ⊢
    have l2' : M.length + Bl.length + 1 ≤ 1000000 := by simpa using l2
    simp [cWritesFor, startE, idxW, idxP, atI, ixN, t, cmpW, cmpD, cmpP, eqP_nil, se, e1, e3, e2, binW, look, binP, l1, l2', noMark, tMark]
end
end Br

set_option autoImplicit false
set_option linter.all false
set_option maxRecDepth 100000
set_option maxHeartbeats 4000000
set_option pp.maxSteps 400
namespace Br
section
variable {P : Pg} {n f ft fa : Nat} {h : CH}
theorem loop_logs {G : Nat → Option PV} {k : Ask} {W : Nat} {B : List PV} {v0 v2 v4 v7 : Option VV} (hk : ∀ (j : Nat) (h' : CH), k fa [.p (.tup B), .p (.int (j : Nat))] h' = .ok (.p (cAt B j)) h') : ∀ (T : List Nat) (i : Nat) (acc : List PV) (s5 s6 : Option VV), acc.length + T.length ≤ 5000 →
    ∃ z5 z6, forLoop none (fun x ρ1 h2 => match putG (.tp [.nm 5, .nm 6]) x ρ1 with
      | none => .err
      | some ρ2 => evB G k W [(.exp (.mth .append (.var 3) [(.tup [(.cst (.str [108, 111, 103])), (.var 5), (.var 6), (.call fa [(.var 1), (.var 6)])])]))] ρ2 h2) (enmL i (T.map fun k => PV.int (k : Nat))) [v0, some (.p (.tup B)), v2, some (.r h.length), v4, s5, s6, v7] (h ++ [Cell.lst acc]) =
      .ok (.nx [v0, some (.p (.tup B)), v2, some (.r h.length), v4, z5, z6, v7]) (h ++ [Cell.lst (acc ++ logsFrom B i T)])
  | [], i, acc, s5, s6, _ => ⟨s5, s6, by rw [show logsFrom B i [] = [] from rfl, List.append_nil]; rfl⟩
  | j :: T, i, acc, s5, s6, hl => by
    have hl' : acc.length + (T.length + 1) ≤ 5000 := hl
    obtain ⟨z5, z6, e⟩ := loop_logs (G := G) (W := W) (v0 := v0) (v2 := v2) (v4 := v4) (v7 := v7) hk T (i + 1) (acc ++ [.tup [.str tLog, .int (i : Nat), .int (j : Nat), cAt B j]]) (some (.p (.int (i : Nat)))) (some (.p (.int (j : Nat)))) (by simp; omega)
    refine ⟨z5, z6, ?_⟩
    have st : ∀ (F : PV → Env → CH → Res Fl) (x : PV) (xs : List PV) (ρ : Env) (h' : CH), forLoop none F (x :: xs) ρ h' = (F x ρ h').bind fun fl h1 => (match fl with
      | .nx ρ1 => forLoop none F xs ρ1 h1
      | .ct ρ1 => forLoop none F xs ρ1 h1
      | .bk ρ1 => .ok (.nx ρ1) h1
      | .rt v => .ok (.rt v) h1) := fun _ _ _ _ _ => rfl
    have n2 : acc.length < 1000000 := by omega
    have ap : ∀ ρ : Env, ρ = [v0, some (.p (.tup B)), v2, some (.r h.length), v4, some (.p (.int (i : Nat))), some (.p (.int (j : Nat))), v7] → evE G k (.mth .append (.var 3) [(.tup [(.cst (.str [108, 111, 103])), (.var 5), (.var 6), (.call fa [(.var 1), (.var 6)])])]) ρ (h ++ [Cell.lst acc]) = .ok (.p .non) (h ++ [Cell.lst (acc ++ [.tup [.str tLog, .int (i : Nat), .int (j : Nat), cAt B j]])]) := by
      rintro ρ rfl
      unfold evE
      simp [look, mthW, n2, hk, tLog]
    show forLoop none _ (.tup [.int (i : Nat), .int (j : Nat)] :: enmL (i + 1) (T.map fun k => PV.int (k : Nat))) _ _ = _
    rw [st]
    have body : (match putG (.tp [.nm 5, .nm 6]) (.tup [.int (i : Nat), .int (j : Nat)]) [v0, some (.p (.tup B)), v2, some (.r h.length), v4, s5, s6, v7] with
      | none => (.err : Res Fl)
      | some ρ2 => evB G k W [(.exp (.mth .append (.var 3) [(.tup [(.cst (.str [108, 111, 103])), (.var 5), (.var 6), (.call fa [(.var 1), (.var 6)])])]))] ρ2 (h ++ [Cell.lst acc])) = .ok (.nx [v0, some (.p (.tup B)), v2, some (.r h.length), v4, some (.p (.int (i : Nat))), some (.p (.int (j : Nat))), v7]) (h ++ [Cell.lst (acc ++ [.tup [.str tLog, .int (i : Nat), .int (j : Nat), cAt B j]])]) := by
      simp [ap]
    rw [body]
    refine e.trans ?_
    rw [List.append_assoc]; rfl
theorem law_commit_ok (hF : P.F f = some (cLawCommit fa)) (hA : P.F fa = some cAtF) (m l : PV) (A B : List PV) (ha : Conts A) (hl : A.length ≤ 1000) (hl2 : B.length ≤ 1000) : callN P (n + 2) f [.p (.tup [m, l, .tup A]), .p (.tup B)] h = .ok (.p (.lst (commit A B))) h := by
  rw [call_eq hF rfl]
  have hm : max A.length B.length ≤ 1000 := by omega
  have hT2 := turned_len A B
  -- the numbers
  have e0 : evI P.G (callN P (n + 1)) (.rng [(.bi .max [(.bi .len [(.var 2)]), (.bi .len [(.var 1)])])]) [some (.p (.tup [m, l, .tup A])), some (.p (.tup B)), some (.p (.tup A)), some (.r h.length), none, none, none, none] (h ++ [Cell.lst []]) = .ok (none, (List.range (max A.length B.length)).map fun k => PV.int (k : Nat)) (h ++ [Cell.lst []]) := by
    rw [rng_eq (h1 := h ++ [Cell.lst []]) (j := ((max A.length B.length : Nat) : Int)) (by simp [biW, lookAll, biP, lenP]; omega) (by omega), rng_nat]
  have e1 := comp_eqT (G := P.G) (k := callN P (n + 1)) (own := [5]) (tg := .nm 5) (it := .rng [(.bi .max [(.bi .len [(.var 2)]), (.bi .len [(.var 1)])])]) (c := some (.cmp .ne (.call fa [(.var 2), (.var 5)]) (.call fa [(.var 1), (.var 5)]))) (elt := .var 5) (g := fun x => match x with | .int i => (if !(cAt A i.toNat).eqv (cAt B i.toNat) then some (.int i) else none) | _ => none) e0 (by simp; omega) fun x hx => by
    obtain ⟨k, _, rfl⟩ := List.mem_map.mp hx
    refine ⟨[some (.p (.tup [m, l, .tup A])), some (.p (.tup B)), some (.p (.tup A)), some (.r h.length), none, some (.p (.int (k : Nat))), none, none], rfl, ?_⟩
    have t1 := at_ok (n := n) (h := h ++ [Cell.lst []]) hA A k
    have t2 := at_ok (n := n) (h := h ++ [Cell.lst []]) hA B k
    have t3 := ne_cont (y := cAt B k) (cAt_cont ha k)
    cases hq : (cAt A k).eqv (cAt B k) with
    | true => exact .inr ⟨by simp [hq], by simp [t1, t2, cmpW, cmpD, t3, hq]⟩
    | false => exact .inl ⟨.int k, by simp [hq], by simp [t1, t2, cmpW, cmpD, t3, hq], by simp⟩
  rw [sift_map (α := Nat) (p := fun k => !(cAt A k).eqv (cAt B k)) (f := fun k => .int (k : Nat)) fun k => by simp] at e1
  have et : ((List.range (max A.length B.length)).filter fun k => !(cAt A k).eqv (cAt B k)) = turned A B := rfl
  rw [et] at e1
  unfold commit
  generalize turned A B = T at e1 hT2 ⊢
  obtain ⟨z5, z6, e2⟩ := loop_logs (h := h) (G := P.G) (k := callN P (n + 1)) (W := P.W) (B := B) (fa := fa) (v0 := some (.p (.tup [m, l, .tup A]))) (v2 := some (.p (.tup A))) (v4 := some (.p (.lst (T.map fun k => PV.int (k : Nat))))) (v7 := none) (fun j h' => at_ok (n := n) (h := h') hA B j) T 0 [] none none (by simp; omega)
  have e3 : evS P.G (callN P (n + 1)) P.W (.for_ (.tp [(.nm 5), (.nm 6)]) (.enm (.var 4)) [(.exp (.mth .append (.var 3) [(.tup [(.cst (.str [108, 111, 103])), (.var 5), (.var 6), (.call fa [(.var 1), (.var 6)])])]))]) [some (.p (.tup [m, l, .tup A])), some (.p (.tup B)), some (.p (.tup A)), some (.r h.length), some (.p (.lst (T.map fun k => PV.int (k : Nat)))), none, none, none] (h ++ [Cell.lst []]) = .ok (.nx [some (.p (.tup [m, l, .tup A])), some (.p (.tup B)), some (.p (.tup A)), some (.r h.length), some (.p (.lst (T.map fun k => PV.int (k : Nat)))), z5, z6, none]) (h ++ [Cell.lst (logsFrom B 0 T)]) := by
    rw [for_eq (xs := enmL 0 (T.map fun k => PV.int (k : Nat))) (h1 := h ++ [Cell.lst []]) rfl]
    exact e2
  have e4 := comp_eqT (G := P.G) (k := callN P (n + 1)) (own := [6]) (tg := .nm 6) (c := none) (it := .val (.var 4)) (elt := .tup [(.cst (.str [98, 108, 111, 99, 107])), (.var 6), (.call fa [(.var 1), (.var 6)])]) (g := fun x => match x with | .int i => (if true then some (blockW (.tup [.int i, cAt B i.toNat])) else none) | _ => none) (ρ := [some (.p (.tup [m, l, .tup A])), some (.p (.tup B)), some (.p (.tup A)), some (.r h.length), some (.p (.lst (T.map fun k => PV.int (k : Nat)))), z5, z6, none]) (h := h ++ [Cell.lst (logsFrom B 0 T)]) (xs := T.map fun k => PV.int (k : Nat)) (val_eq (v := .lst (T.map fun k => PV.int (k : Nat))) rfl rfl) (by simp; omega) fun x hx => by
    obtain ⟨k, _, rfl⟩ := List.mem_map.mp hx
    have t2 := at_ok (n := n) (h := h ++ [Cell.lst (logsFrom B 0 T)]) hA B k
    exact ⟨[some (.p (.tup [m, l, .tup A])), some (.p (.tup B)), some (.p (.tup A)), some (.r h.length), some (.p (.lst (T.map fun k => PV.int (k : Nat)))), z5, some (.p (.int (k : Nat))), none], rfl, .inl ⟨_, rfl, rfl, by simp [t2, blockW, tBlock]⟩⟩
  rw [sift_map (α := Nat) (p := fun _ => true) (f := fun k => blockW (.tup [.int (k : Nat), cAt B k])) fun k => by simp] at e4
  have eb : (T.filter fun _ => true).map (fun k => blockW (.tup [.int (k : Nat), cAt B k])) = (slotsOf B T).map blockW := by
    rw [List.filter_eq_self.mpr fun _ _ => rfl]
    unfold slotsOf
    rw [List.map_map]; rfl
  rw [eb] at e4
  have l0 := logs_len B T 0
  have l3 : (slotsOf B T).length = T.length := by simp [slotsOf]
  have g1 : cmpW (h ++ [Cell.lst (logsFrom B 0 T)]) .ne (.p (.lst (T.map fun k => PV.int (k : Nat)))) (.p (.lst [])) = some (!T.isEmpty) := by
    simp [cmpW, cmpD, cmpP, eqP_nil]
  have n1 : T.length ≤ 1000 := by omega
  generalize hI : (T.map fun k => PV.int (k : Nat)) = I at e1 e3 e4 g1
  have hIl : I.length = T.length := by rw [← hI]; simp
  cases hT : T.isEmpty with
  | true =>
    rw [hT] at g1
    simp [cLawCommit, startE, setAll, idxW, idxP, atI, ixN, e1, e3, e4, g1]
  | false =>
    rw [hT] at g1
    rw [if_neg Bool.false_ne_true]
    generalize hL : logsFrom B 0 T = L at e3 e4 g1 l0 ⊢
    generalize hB : (slotsOf B T).map blockW = Bl at e4 ⊢
    have hBl : Bl.length = T.length := by rw [← hB]; simp [slotsOf]
    have q1 : L.length + 1 ≤ 1000000 := by omega
    have q2 : L.length + 1 + Bl.length ≤ 1000000 := by omega
    have q3 : L.length + (Bl.length + 1) + 1 ≤ 1000000 := by omega
    simp [cLawCommit, startE, setAll, idxW, idxP, atI, ixN, e1, e3, e4, g1, biW, lookAll, biP, lenP, hIl, binW, look, binP, q1, q2, q3, noMark, tMark]
/-- alike -/
theorem alike_ok (hF : P.F f = some (cAlike fa)) (hA : P.F fa = some cAtF) (A B : List PV) (ha : Conts A) (hl : A.length ≤ 1000) (hl2 : B.length ≤ 1000) : callN P (n + 2) f [.p (.tup A), .p (.tup B)] h = .ok (.p (.bl (turned A B).isEmpty)) h := by
  rw [call_eq hF rfl]
  have hm : max A.length B.length ≤ 1000 := by omega
  have e0 : evI P.G (callN P (n + 1)) (.rng [(.bi .max [(.bi .len [(.var 0)]), (.bi .len [(.var 1)])])]) [some (.p (.tup A)), some (.p (.tup B)), none] h = .ok (none, (List.range (max A.length B.length)).map fun k => PV.int (k : Nat)) h := by
    rw [rng_eq (h1 := h) (j := ((max A.length B.length : Nat) : Int)) (by simp [biW, lookAll, biP, lenP]; omega) (by omega), rng_nat]
  have e1 := comp_eqT (G := P.G) (k := callN P (n + 1)) (own := [2]) (tg := .nm 2) (it := .rng [(.bi .max [(.bi .len [(.var 0)]), (.bi .len [(.var 1)])])]) (c := some (.cmp .ne (.call fa [(.var 0), (.var 2)]) (.call fa [(.var 1), (.var 2)]))) (elt := .var 2) (g := fun x => match x with | .int i => (if !(cAt A i.toNat).eqv (cAt B i.toNat) then some (.int i) else none) | _ => none) e0 (by simp; omega) fun x hx => by
    obtain ⟨k, _, rfl⟩ := List.mem_map.mp hx
    refine ⟨[some (.p (.tup A)), some (.p (.tup B)), some (.p (.int (k : Nat)))], rfl, ?_⟩
    have t1 := at_ok (n := n) (h := h) hA A k
    have t2 := at_ok (n := n) (h := h) hA B k
    have t3 := ne_cont (y := cAt B k) (cAt_cont ha k)
    cases hq : (cAt A k).eqv (cAt B k) with
    | true => exact .inr ⟨by simp [hq], by simp [t1, t2, cmpW, cmpD, t3, hq]⟩
    | false => exact .inl ⟨.int k, by simp [hq], by simp [t1, t2, cmpW, cmpD, t3, hq], by simp⟩
  rw [sift_map (α := Nat) (p := fun k => !(cAt A k).eqv (cAt B k)) (f := fun k => .int (k : Nat)) fun k => by simp] at e1
  have et : ((List.range (max A.length B.length)).filter fun k => !(cAt A k).eqv (cAt B k)) = turned A B := rfl
  rw [et] at e1
  simp [cAlike, startE, e1, cmpW, cmpD, cmpP, eqP_nil]
/-! ### a commit, written -/
theorem logs_run (B : List PV) : ∀ (T : List Nat) (i : Nat) (d : Dk), i ≤ d.l.length → i + T.length ≤ 1000 → d.l.length ≤ 1000 → (∀ x ∈ d.l, isSlot x = true) → (∀ k ∈ T, k ≤ 999) → Conts B →
    Wrs d (logsFrom B i T) ∧ ∃ l', wrs d (logsFrom B i T) = ⟨d.m, l', d.c⟩ ∧ i + T.length ≤ l'.length ∧ l'.length ≤ max d.l.length (i + T.length)
  | [], i, d, h1, _, _, _, _, _ => ⟨trivial, d.l, rfl, by simpa using h1, by omega⟩
  | k :: T, i, d, h1, h2, h3, hs, hk, hB => by
    have h2' : i + (T.length + 1) ≤ 1000 := h2
    have hk0 := hk k List.mem_cons_self
    have hc := cAt_cont hB k
    have sl : isSlot (.tup [.int (k : Nat), cAt B k]) = true := by simp [isSlot, isWhole, hc]; omega
    have w : isWrite d.l.length (.tup [.str tLog, .int (i : Nat), .int (k : Nat), cAt B k]) = true := by
      have hi : (i : Int) ≤ minI (d.l.length : Nat) 999 := by unfold minI; split <;> omega
      have hi0 : isWhole (.int (i : Nat)) 0 (minI (d.l.length : Nat) 999) = true := by simp [isWhole, hi]
      simp only [isWrite, show (tLog == tMark) = false from rfl, show (tLog == tBlock) = false from rfl, show (tLog == tLog) = true from rfl, hi0, sl]
      rfl
    have ln := withItem_len d.l i (.tup [.int (k : Nat), cAt B k]) h1
    obtain ⟨i1, l', i2, i3, i4⟩ := logs_run B T (i + 1) ⟨d.m, withItem d.l i (.tup [.int (k : Nat), cAt B k]), d.c⟩ (show i + 1 ≤ (withItem d.l i _).length by rw [ln]; omega) (by omega) (show (withItem d.l i _).length ≤ 1000 by rw [ln]; omega) (withItem_all hs sl) (fun z hz => hk z (List.mem_cons_of_mem _ hz)) hB
    refine ⟨⟨w, i1⟩, l', i2, by simp only [List.length_cons]; omega, ?_⟩
    have i4' : l'.length ≤ max (withItem d.l i (.tup [.int (k : Nat), cAt B k])).length (i + 1 + T.length) := i4
    rw [ln] at i4'
    simp only [List.length_cons]
    omega
theorem turned_lt {A B : List PV} {k : Nat} (h : k ∈ turned A B) : k < max A.length B.length := by
  unfold turned at h
  exact List.mem_range.mp (List.mem_filter.mp h).1
theorem commit_run {d : Dk} {B : List PV} (hd : isDisk d.pv = true) (hm : d.m = .non) (hB : Conts B) (hl : B.length ≤ 1000) (hl2 : d.l.length ≤ 1000) : Wrs d (commit d.c B) ∧ ∃ l', wrs d (commit d.c B) = ⟨.non, l', putBs d.c ((slotsOf B (turned d.c B)).map pairB)⟩ ∧ l'.length ≤ max d.l.length 1000 := by
  obtain ⟨_, hs⟩ := disk_mark hd
  have hc := (dk_len hd).2
  have hT := turned_len d.c B
  have hk : ∀ k ∈ turned d.c B, k ≤ 999 := fun k h => by have := turned_lt h; omega
  unfold commit
  generalize turned d.c B = T at hT hk
  cases T with
  | nil =>
    refine ⟨trivial, d.l, ?_, by omega⟩
    show d = _
    cases d
    cases hm
    rfl
  | cons k T =>
    rw [if_neg (by simp)]
    obtain ⟨i1, l', i2, i3, i4⟩ := logs_run B (k :: T) 0 d (Nat.zero_le _) (by omega) hl2 hs hk hB
    have i3' : T.length + 1 ≤ l'.length := by simpa using i3
    have sl : ∀ x ∈ slotsOf B (k :: T), isSlot x = true := fun x hx => by
      obtain ⟨j, rfl, hj⟩ := slots_mem hx
      have := hk j hj
      simp [isSlot, isWhole, cAt_cont hB j]; omega
    have w1 : isWrite l'.length (.tup [.str tMark, .int ((k :: T).length : Nat)]) = true := by
      have : isMark l'.length (.int ((k :: T).length : Nat)) = true := by simp [isMark, isWhole]; omega
      simpa [isWrite] using this
    obtain ⟨b1, b2⟩ := blocks_run (slotsOf B (k :: T)) ⟨.int ((k :: T).length : Nat), l', d.c⟩ sl
    have w2 : ∀ l, isWrite l noMark = true := fun l => by simp [noMark, isWrite, isMark, isNon]
    have e1 : wrs d (logsFrom B 0 (k :: T) ++ [.tup [.str tMark, .int ((k :: T).length : Nat)]]) = ⟨.int ((k :: T).length : Nat), l', d.c⟩ := by
      rw [wrs_append, i2]; rfl
    refine ⟨Wrs_append _ _ _ (Wrs_append _ _ _ (Wrs_append _ _ _ i1 ?_) ?_) ?_, l', ?_, by omega⟩
    · rw [i2]; exact ⟨w1, trivial⟩
    · rw [e1]; exact b1
    · exact ⟨w2 _, trivial⟩
    · rw [wrs_append, wrs_append, e1, b2]; rfl
theorem lastB_slots (B : List PV) (j : Nat) : ∀ T : List Nat, lastB j ((slotsOf B T).map pairB) = if j ∈ T then some (cAt B j) else none
  | [] => rfl
  | k :: T => by
    show (lastB j ((slotsOf B T).map pairB)).or (if j = (Int.toNat (k : Nat)) then some (cAt B k) else none) = _
    rw [lastB_slots B j T, Int.toNat_natCast]
    by_cases h1 : j ∈ T
    · rw [if_pos h1, if_pos (List.mem_cons_of_mem _ h1)]; rfl
    · rw [if_neg h1]
      by_cases h2 : j = k
      · subst h2
        rw [if_pos rfl, if_pos List.mem_cons_self]; rfl
      · rw [if_neg h2, if_neg (fun h => (List.mem_cons.mp h).elim h2 h1)]; rfl
/-- the contents have come -/
theorem commit_there (A B : List PV) : (turned (putBs A ((slotsOf B (turned A B)).map pairB)) B).isEmpty = true := by
  rw [List.isEmpty_iff, turned, List.filter_eq_nil_iff]
  intro j _
  rw [putBs_at, lastB_slots]
  by_cases h : j ∈ turned A B
  · rw [if_pos h]; simp [eqv_refl]
  · rw [if_neg h]
    show ¬ (!(cAt A j).eqv (cAt B j)) = true
    by_cases hj : j < max A.length B.length
    · intro z
      exact h (List.mem_filter.mpr ⟨List.mem_range.mpr hj, z⟩)
    · have e1 : cAt A j = .tup [] := by unfold cAt; rw [List.getElem?_eq_none (by omega)]; rfl
      have e2 : cAt B j = .tup [] := by unfold cAt; rw [List.getElem?_eq_none (by omega)]; rfl
      rw [e1, e2]; decide
end
end Br

set_option autoImplicit false
set_option linter.all false
set_option maxRecDepth 100000
set_option maxHeartbeats 4000000
set_option pp.maxSteps 400
namespace Br
theorem sz_small {k : Nat} (h : k ≤ 100000) : szP (.int (k : Int)) ≤ 20 := (sz_whole (x := .int k) (lo := 0) (hi := 100000) (by simp [isWhole]; omega) (by decide) (by decide)).1
theorem sz_logs {B : List PV} (hB : Conts B) : ∀ (T : List Nat) (i : Nat), i + T.length ≤ 100000 → (∀ k ∈ T, k ≤ 999) → ∀ x ∈ logsFrom B i T, szP x ≤ 11400 ∧ x.dle 58 = true
  | [], _, _, _, _, h => by cases h
  | k :: T, i, hl, hk, x, h => by
    have hl' : i + (T.length + 1) ≤ 100000 := hl
    have h' : x ∈ (.tup [.str tLog, .int (i : Nat), .int (k : Nat), cAt B k] :: logsFrom B (i + 1) T : List PV) := h
    rcases List.mem_cons.mp h' with e | e
    · subst e
      have h2 := sz_content (cAt_cont hB k)
      have h3 := sz_small (k := i) (by omega)
      have h4 := sz_small (k := k) (by have := hk k List.mem_cons_self; omega)
      refine ⟨?_, ?_⟩
      · simp only [szP, szL, tLog, List.length_cons, List.length_nil] at h3 h4 ⊢
        omega
      · simp only [PV.dle, PV.dleL, h2.2 56]; rfl
    · exact sz_logs hB T (i + 1) (by omega) (fun z hz => hk z (List.mem_cons_of_mem _ hz)) x e
theorem shown_commit {A B : List PV} (hB : Conts B) (hl : A.length ≤ 300) (hl2 : B.length ≤ 300) : shownOk (.tup (commit A B)) = true := by
  have hT := turned_len A B
  have hk : ∀ k ∈ turned A B, k ≤ 999 := fun k h => by have := turned_lt h; omega
  unfold commit
  generalize turned A B = T at hT hk
  cases T with
  | nil =>
    show shownOk (.tup []) = true
    decide
  | cons k T =>
    rw [if_neg (by simp)]
    have hT' : T.length + 1 ≤ 300 := by simp only [List.length_cons] at hT; omega
    have z1 : ∀ x ∈ logsFrom B 0 (k :: T) ++ [PV.tup [.str tMark, .int ((k :: T).length : Nat)]] ++ (slotsOf B (k :: T)).map blockW ++ [noMark], szP x ≤ 11400 ∧ x.dle 58 = true := fun x hx => by
      rw [List.mem_append, List.mem_append, List.mem_append] at hx
      rcases hx with ((hx | hx) | hx) | hx
      · exact sz_logs hB _ 0 (by simp only [List.length_cons]; omega) hk x hx
      · rw [List.mem_singleton.mp hx]
        have h3 := sz_small (k := (k :: T).length) (by simp only [List.length_cons]; omega)
        refine ⟨?_, rfl⟩
        simp only [szP, szL, tMark, List.length_cons, List.length_nil] at h3 ⊢
        omega
      · obtain ⟨y, hy, rfl⟩ := List.mem_map.mp hx
        obtain ⟨j, rfl, hj⟩ := slots_mem hy
        have := hk j hj
        have w := sz_blockW (x := .tup [.int (j : Nat), cAt B j]) (by simp [isSlot, isWhole, cAt_cont hB j]; omega)
        exact ⟨w.1, w.2 56⟩
      · rw [List.mem_singleton.mp hx]; decide
    have z2 := szL_le (B := 11400) fun x hx => (z1 x hx).1
    have z3 : (logsFrom B 0 (k :: T) ++ [PV.tup [.str tMark, .int ((k :: T).length : Nat)]] ++ (slotsOf B (k :: T)).map blockW ++ [noMark]).length ≤ 602 := by
      simp only [List.length_append, logs_len, List.length_map, slotsOf, List.length_cons, List.length_nil]; omega
    unfold shownOk
    rw [Bool.and_eq_true]
    refine ⟨decide_eq_true ?_, ?_⟩
    · simp only [szP]
      have := Nat.mul_le_mul_right (11400 + 2) z3
      omega
    · simp only [PV.dle]
      exact dleL_of fun x hx => dle_mono (z1 x hx).2
/-- new contents -/
def CS6 (v : PV) : Prop := ∃ B : List PV, v = .tup B ∧ 1 ≤ B.length ∧ B.length ≤ 6 ∧ Conts B
def cNear (fr fs fc : Nat) : CFun := ⟨2, 4, [(.asg (.nm 2) (.comp [3] (.nm 3) (.val (.var 1)) none (.ife (.cmp .eq (.call fr [(.var 0), (.cst (.int 3))]) (.cst (.int 0))) (.call fc [(.var 0)]) (.var 3)))), (.ret (.bi .tuple [(.call fs [(.var 0), (.lst [(.var 2), (.var 2), (.bin .add (.var 2) (.lst [(.call fc [(.var 0)]), (.call fc [(.var 0)])])), (.slc (.var 2) none (some (.cst (.int 1))))])])]))], true⟩
section
variable {P : Pg} {n f fr fs fc : Nat}
theorem near_ok (hF : P.F f = some (cNear fr fs fc)) (hC : P.F fc = some (cContent fr fs)) (hS : P.F fs = some (cSome fr)) (hR : P.F fr = some cRoll) {c : List PV} (hc : Conts c) (h1 : 1 ≤ c.length) (h4 : c.length ≤ 4) : Gen (callN P (n + 4) f [.r 0, .p (.tup c)]) CS6 := by
  intro a b t hok
  rw [call_eq hF rfl]
  obtain ⟨ys, a1, b1, k1, q1, l1, e1⟩ := comp_gen (G := P.G) (k := callN P (n + 3)) (own := [3]) (i := 3) (it := .val (.var 1)) (elt := .ife (.cmp .eq (.call fr [(.var 0), (.cst (.int 3))]) (.cst (.int 0))) (.call fc [(.var 0)]) (.var 3)) (ρ := [some (.r 0), some (.p (.tup c)), none, none]) (a := a) (b := b) (t := t) (Q := fun y => isContent y = true) (xs := c) (val_eq (v := .tup c) rfl rfl) hok (by simp) (by omega) fun x hx a b t hok => by
      obtain ⟨_, a3, b3, h3, ⟨r, rfl, _, _⟩, e3⟩ := roll_ok (P := P) (n := n + 2) hR (m := 3) (by decide) (by decide) a b t hok
      cases hr : (r == 0) with
      | true =>
        obtain ⟨w, a4, b4, h4, q4, e4⟩ := content_ok (P := P) (n := n) hC hS hR a3 b3 t h3
        exact ⟨w, a4, b4, h4, cont_true q4, by simp [wipe, e3, cmpW, cmpD, cmpP, eqP_int, hr, e4]⟩
      | false => exact ⟨x, a3, b3, h3, hc x hx, by simp [wipe, e3, cmpW, cmpD, cmpP, eqP_int, hr]⟩
  obtain ⟨u, a2, b2, k2, q2, e2⟩ := content_ok (P := P) (n := n) hC hS hR a1 b1 t k1
  obtain ⟨w, a3, b3, k3, q3, e3⟩ := content_ok (P := P) (n := n) hC hS hR a2 b2 t k2
  obtain ⟨v, a4, b4, k4, q4, e4⟩ := some_ok (P := P) (n := n + 1) hS hR (xs := [.lst ys, .lst ys, .lst (ys ++ [u, w]), .lst (ys.take 1)]) (by simp) (by simp) a3 b3 t k3
  have hs : ∃ B : List PV, v = .lst B ∧ 1 ≤ B.length ∧ B.length ≤ 6 ∧ Conts B := by
    simp at q4
    rcases q4 with rfl | rfl | rfl
    · exact ⟨ys, rfl, by omega, by omega, q1⟩
    · refine ⟨_, rfl, by simp, by simp; omega, fun x hx => ?_⟩
      rw [List.mem_append] at hx
      rcases hx with hx | hx
      · exact q1 x hx
      · simp at hx
        rcases hx with rfl | rfl
        · exact cont_true q2
        · exact cont_true q3
    · exact ⟨_, rfl, by rw [List.length_take]; omega, by rw [List.length_take]; omega, fun x hx => q1 x (List.mem_of_mem_take hx)⟩
  obtain ⟨B, rfl, b1', b2', b3'⟩ := hs
  refine ⟨.tup B, a4, b4, k4, ⟨B, rfl, b1', b2', b3'⟩, ?_⟩
  have ly : ys.length + 2 ≤ 1000000 := by omega
  have ct : cutL ys none (some 1) = ys.take 1 := cut_to ys 1
  simp [cNear, startE, e1, e2, e3, binW, binP, ly, slcW, slcP, bound, ct, e4, biW, lookAll, biP]
end
end Br

set_option autoImplicit false
set_option linter.all false
set_option maxRecDepth 100000
set_option maxHeartbeats 4000000
set_option pp.maxSteps 400
/-! A commit that is cut. -/
namespace Br
theorem withItem_take (xs : List PV) (i : Nat) (x : PV) (h : i ≤ xs.length) : (withItem xs i x).take (i + 1) = xs.take i ++ [x] := by
  unfold withItem
  have hl : (xs.take i ++ [x]).length = i + 1 := by simp; omega
  rw [List.take_append_of_le_length (by rw [hl]; omega), List.take_of_length_le (by rw [hl]; omega)]
/-- what stands in the log behind the log's writes -/
theorem logs_take (B : List PV) : ∀ (T : List Nat) (i : Nat) (d : Dk), i ≤ d.l.length → (wrs d (logsFrom B i T)).l.take (i + T.length) = d.l.take i ++ slotsOf B T ∧ (wrs d (logsFrom B i T)).m = d.m ∧ (wrs d (logsFrom B i T)).c = d.c
  | [], i, d, h => ⟨by show d.l.take i = d.l.take i ++ []; rw [List.append_nil], rfl, rfl⟩
  | k :: T, i, d, h => by
    have ln := withItem_len d.l i (.tup [.int (k : Nat), cAt B k]) h
    obtain ⟨h1, h2, h3⟩ := logs_take B T (i + 1) ⟨d.m, withItem d.l i (.tup [.int (k : Nat), cAt B k]), d.c⟩ (show i + 1 ≤ (withItem d.l i _).length by rw [ln]; omega)
    refine ⟨?_, h2, h3⟩
    have e : i + (k :: T).length = i + 1 + T.length := by simp only [List.length_cons]; omega
    rw [e]
    refine h1.trans ?_
    show (withItem d.l i (.tup [.int (k : Nat), cAt B k])).take (i + 1) ++ slotsOf B T = d.l.take i ++ slotsOf B (k :: T)
    rw [withItem_take _ _ _ h, List.append_assoc]
    rfl
theorem logs_takeL (B : List PV) : ∀ (T : List Nat) (i p : Nat), (logsFrom B i T).take p = logsFrom B i (T.take p)
  | [], i, p => by simp [logsFrom]
  | k :: T, i, 0 => by simp [logsFrom]
  | k :: T, i, p + 1 => by
    show _ :: (logsFrom B (i + 1) T).take p = _ :: logsFrom B (i + 1) (T.take p)
    rw [logs_takeL B T (i + 1) p]
def isNew (A B : List PV) (p : Nat) : Bool := (commit A B).isEmpty || decide ((commit A B).length < 2 * p + 2)
def newC (A B : List PV) : List PV := putBs A ((slotsOf B (turned A B)).map pairB)
theorem slots_ok {B : List PV} {T : List Nat} (hB : Conts B) (hk : ∀ k ∈ T, k ≤ 999) : ∀ x ∈ slotsOf B T, isSlot x = true := fun x hx => by
  obtain ⟨j, rfl, hj⟩ := slots_mem hx
  have := hk j hj
  simp [isSlot, isWhole, cAt_cont hB j]; omega
theorem wrs_len : ∀ (ws : List PV) (d : Dk), isDisk d.pv = true → Wrs d ws → (wrs d ws).l.length ≤ d.l.length + ws.length
  | [], d, _, _ => Nat.le_refl _
  | w :: ws, d, hd, h => by
    obtain ⟨m', l', c', e, _, h2, _⟩ := written_disk (m := d.m) (l := d.l) (c := d.c) hd h.1
    rw [wr_pv h.1] at e
    have e2 : (wr d w).l = l' := by
      have : (wr d w).pv = .tup [(wr d w).m, .tup (wr d w).l, .tup (wr d w).c] := rfl
      rw [this] at e
      cases e; rfl
    have := wrs_len ws (wr d w) (wr_disk hd h.1) h.2
    rw [e2] at this
    show (wrs (wr d w) ws).l.length ≤ d.l.length + (ws.length + 1)
    omega
theorem commit_len (A B : List PV) : (commit A B).length ≤ 2 * max A.length B.length + 2 := by
  have hT := turned_len A B
  unfold commit
  split
  · simp
  · simp only [List.length_append, List.length_map, logs_len, slotsOf, List.length_cons, List.length_nil]; omega
/-- a commit that is cut at a place, and comes up -/
theorem commit_cut {d : Dk} {B : List PV} (hd : isDisk d.pv = true) (hm : d.m = .non) (hB : Conts B) (hl : B.length ≤ 1000) (p : Nat) (fs : List PV) (hf : ∀ x ∈ fs, ∃ i : Int, x = .int i) :
    Wrs d ((commit d.c B).take p) ∧ ∃ l', l'.length ≤ d.l.length + (commit d.c B).length ∧ up (wrs d ((commit d.c B).take p)) fs = ⟨.non, l', if isNew d.c B p then newC d.c B else d.c⟩ := by
  obtain ⟨hl2, hc⟩ := dk_len hd
  obtain ⟨wv, _⟩ := commit_run hd hm hB hl hl2
  have wt := Wrs_take _ p _ wv
  have hs := (disk_mark (wrs_disk hd wt)).2
  refine ⟨wt, (wrs d ((commit d.c B).take p)).l, ?_, ?_⟩
  · have := wrs_len _ d hd wt
    have h2 : ((commit d.c B).take p).length ≤ (commit d.c B).length := by rw [List.length_take]; exact Nat.min_le_right _ _
    omega
  have hT := turned_len d.c B
  have hk : ∀ k ∈ turned d.c B, k ≤ 999 := fun k h => by have := turned_lt h; omega
  by_cases he : (turned d.c B).isEmpty = true
  · have e0 : commit d.c B = [] := by unfold commit; rw [if_pos he]
    have e1 : turned d.c B = [] := List.isEmpty_iff.mp he
    refine up_eq (ps := []) fs _ hf hs (.inl ?_)
    rw [e0]
    simp [isNew, newC, e0, e1, wrs, hm, slotsOf, putBs]
  · have e0 : commit d.c B = logsFrom B 0 (turned d.c B) ++ [.tup [.str tMark, .int ((turned d.c B).length : Nat)]] ++ (slotsOf B (turned d.c B)).map blockW ++ [noMark] := by unfold commit; rw [if_neg he]
    have hnw : newC d.c B = putBs d.c ((slotsOf B (turned d.c B)).map pairB) := rfl
    have so := slots_ok hB hk
    have ll := logs_len B (turned d.c B) 0
    have ls : (slotsOf B (turned d.c B)).length = (turned d.c B).length := by simp [slotsOf]
    obtain ⟨h1, h2, h3⟩ := logs_take B (turned d.c B) 0 d (Nat.zero_le _)
    have n0 : 0 < (turned d.c B).length := List.length_pos_iff.mpr fun z => he (by rw [z]; rfl)
    have hlen : (commit d.c B).length = 2 * (turned d.c B).length + 2 := by rw [e0]; simp only [List.length_append, List.length_map, ll, ls, List.length_cons, List.length_nil]; omega
    have hne : (commit d.c B).isEmpty = false := by
      cases q : commit d.c B with
      | nil => rw [q] at hlen; simp at hlen
      | cons _ _ => rfl
    have inw : isNew d.c B p = decide ((turned d.c B).length + 1 ≤ p) := by
      unfold isNew
      rw [hne, Bool.false_or, hlen]
      by_cases q : (turned d.c B).length + 1 ≤ p
      · rw [decide_eq_true (by omega), decide_eq_true q]
      · rw [decide_eq_false (by omega), decide_eq_false q]
    rw [inw]
    by_cases hp : p ≤ (turned d.c B).length
    · rw [decide_eq_false (by intro z; have : (turned d.c B).length + 1 ≤ p := z; omega)]
      have e1 : (commit d.c B).take p = logsFrom B 0 ((turned d.c B).take p) := by
        rw [e0, List.append_assoc, List.append_assoc, List.take_append_of_le_length (by rw [ll]; exact hp), logs_takeL]
      obtain ⟨_, k2, k3⟩ := logs_take B ((turned d.c B).take p) 0 d (Nat.zero_le _)
      refine up_eq (ps := []) fs _ hf hs (.inl ?_)
      rw [e1]
      exact ⟨k2.trans hm, k3⟩
    · rw [decide_eq_true (show (turned d.c B).length + 1 ≤ p by omega), if_pos rfl]
      have e1 : wrs d (logsFrom B 0 (turned d.c B) ++ [.tup [.str tMark, .int ((turned d.c B).length : Nat)]]) = ⟨.int ((turned d.c B).length : Nat), (wrs d (logsFrom B 0 (turned d.c B))).l, d.c⟩ := by
        rw [wrs_append]
        show (⟨_, _, _⟩ : Dk) = _
        rw [h3]
      by_cases hp2 : p ≤ 2 * (turned d.c B).length + 1
      · have e2 : (commit d.c B).take p = logsFrom B 0 (turned d.c B) ++ [.tup [.str tMark, .int ((turned d.c B).length : Nat)]] ++ ((slotsOf B (turned d.c B)).take (p - ((turned d.c B).length + 1))).map blockW := by
          rw [e0, List.take_append_of_le_length (by simp only [List.length_append, List.length_map, ll, ls, List.length_cons, List.length_nil]; omega), List.take_append, List.take_of_length_le (by simp only [List.length_append, ll, List.length_cons, List.length_nil]; omega), List.map_take]
          simp only [List.length_append, ll, List.length_cons, List.length_nil, Nat.zero_add]
        have e3 : wrs d ((commit d.c B).take p) = ⟨.int ((turned d.c B).length : Nat), (wrs d (logsFrom B 0 (turned d.c B))).l, putBs d.c (((slotsOf B (turned d.c B)).take (p - ((turned d.c B).length + 1))).map pairB)⟩ := by
          rw [e2, wrs_append, e1, (blocks_run _ _ fun x hx => so x (List.mem_of_mem_take hx)).2]
        refine up_eq (ps := slotsOf B (turned d.c B)) fs _ hf hs (.inr ⟨(turned d.c B).length, ?_⟩)
        rw [e3]
        refine ⟨rfl, ?_, ?_⟩
        · have := h1
          rw [Nat.zero_add] at this
          rw [this]; simp
        · show putBs (putBs d.c _) _ = _
          rw [List.map_take, putBs_again, hnw]
      · have e2 : (commit d.c B).take p = commit d.c B := List.take_of_length_le (by rw [hlen]; omega)
        refine up_eq (ps := []) fs _ hf hs (.inl ?_)
        rw [e2, e0, wrs_append, wrs_append, e1, (blocks_run _ _ so).2]
        exact ⟨rfl, rfl⟩
theorem turned_self (A : List PV) : (turned A A).isEmpty = true := by
  rw [List.isEmpty_iff, turned, List.filter_eq_nil_iff]
  intro j _
  simp [eqv_refl]
theorem turned_new (A B : List PV) : (turned (newC A B) B).isEmpty = true := commit_there A B
end Br

set_option autoImplicit false
set_option linter.all false
set_option maxRecDepth 100000
set_option maxHeartbeats 4000000
set_option pp.maxSteps 400
/-! A commit with falls. -/
namespace Br
def cCommitted (fw fa fr : Nat) : CFun := ⟨3, 4, [(.asg (.nm 3) (.call fw [(.var 0), (.var 1)])), (.ife (.cmp .eq (.var 2) (.tup [])) [(.ret (.call fa [(.var 0), (.var 3)]))] []), (.ret (.call fr [(.call fa [(.var 0), (.slc (.var 3) none (some (.idx (.var 2) (.cst (.int 0)))))]), (.slc (.var 2) (some (.cst (.int 1))) none)]))], true⟩
def com (d : Dk) (B : List PV) : List PV → Dk
  | [] => wrs d (commit d.c B)
  | .int p :: fs => up (wrs d ((commit d.c B).take p.toNat)) fs
  | _ => d
def isNewF (A B : List PV) : List PV → Bool
  | .int p :: _ => isNew A B p.toNat
  | _ => true
def Falls (v : List PV) : Prop := ∀ x ∈ v, ∃ i : Nat, x = .int i
theorem com_eq {d : Dk} {B : List PV} (hd : isDisk d.pv = true) (hm : d.m = .non) (hB : Conts B) (hl : B.length ≤ 1000) (fs : List PV) (hf : Falls fs) :
    ∃ l', l'.length ≤ d.l.length + (commit d.c B).length ∧ com d B fs = ⟨.non, l', if isNewF d.c B fs then newC d.c B else d.c⟩ := by
  cases fs with
  | nil =>
    obtain ⟨wv, l', e, _⟩ := commit_run hd hm hB hl (dk_len hd).1
    refine ⟨l', ?_, e⟩
    have := wrs_len _ d hd wv
    rw [e] at this
    exact this
  | cons x fs =>
    obtain ⟨p, rfl⟩ := hf x List.mem_cons_self
    exact (commit_cut hd hm hB hl p fs fun x hx => let ⟨i, e⟩ := hf x (List.mem_cons_of_mem _ hx); ⟨i, e⟩).2
theorem com_disk {d : Dk} {B : List PV} (hd : isDisk d.pv = true) (hm : d.m = .non) (hB : Conts B) (hl : B.length ≤ 1000) (fs : List PV) (hf : Falls fs) : isDisk (com d B fs).pv = true := by
  have hl2 := (dk_len hd).1
  cases fs with
  | nil => exact wrs_disk hd (commit_run hd hm hB hl hl2).1
  | cons x fs =>
    obtain ⟨p, rfl⟩ := hf x List.mem_cons_self
    exact up_disk fs _ (wrs_disk hd (commit_cut hd hm hB hl p [] (by simp)).1)
section
variable {P : Pg} {n f fw fa fr : Nat} {h : CH}
theorem committed_ok (hF : P.F f = some (cCommitted fw fa fr)) {d : Dk} {B : List PV} (hd : isDisk d.pv = true) (hm : d.m = .non) (hB : Conts B) (hl : B.length ≤ 1000)
    (hw : callN P n fw [.p d.pv, .p (.tup B)] h = .ok (.p (.lst (commit d.c B))) h)
    (ha : ∀ (d : Dk) (ws : List PV), isDisk d.pv = true → Wrs d ws → callN P n fa [.p d.pv, .p (.lst ws)] h = .ok (.p (wrs d ws).pv) h)
    (hr : ∀ (d : Dk) (fs : List PV), isDisk d.pv = true → Falls fs → callN P n fr [.p d.pv, .p (.tup fs)] h = .ok (.p (up d fs).pv) h)
    (fs : List PV) (hf : Falls fs) : callN P (n + 1) f [.p d.pv, .p (.tup B), .p (.tup fs)] h = .ok (.p (com d B fs).pv) h := by
  rw [call_eq hF rfl]
  have hl2 := (dk_len hd).1
  have wv := (commit_run hd hm hB hl hl2).1
  cases fs with
  | nil =>
    have e1 := ha d _ hd wv
    simp [cCommitted, startE, hw, cmpW, cmpD, cmpP, eqP, deepC, PV.dle, PV.dleL, PV.eqv, PV.eqvL, e1, com]
  | cons x fs =>
    obtain ⟨p, rfl⟩ := hf x List.mem_cons_self
    have w1 := (commit_cut hd hm hB hl p [] (by simp)).1
    have e1 := ha d _ hd w1
    have e2 := hr _ fs (wrs_disk hd w1) fun x hx => hf x (List.mem_cons_of_mem _ hx)
    have c1 : cutL (commit d.c B) none (some (p : Int)) = (commit d.c B).take p := cut_to _ _
    have c2 : cutL (PV.int p :: fs) (some 1) none = fs := cut_from (PV.int p :: fs) 1
    simp [cCommitted, startE, hw, cmpW, cmpD, cmpP, eqP, deepC, PV.dle, PV.dleL, PV.eqv, PV.eqvL, idxW, idxP, atI, ixN, slcW, slcP, bound, c1, c2, e1, e2, com]
end
end Br

set_option autoImplicit false
set_option linter.all false
set_option maxRecDepth 100000
set_option maxHeartbeats 4000000
set_option pp.maxSteps 400
/-! Commits one behind the other. -/
namespace Br
def CSn (m : Nat) (v : PV) : Prop := ∃ B : List PV, v = .tup B ∧ 1 ≤ B.length ∧ B.length ≤ m ∧ Conts B
theorem dleL_all {d : Nat} : ∀ {xs : List PV}, (∀ x ∈ xs, x.dle d = true) → PV.dleL d xs = true := dleL_of
theorem disk_dle {v : PV} (h : isDisk v = true) : v.dle 60 = true := by
  obtain ⟨m, l, c, rfl, h1, h2, h3, h4, h5, h6⟩ := disk_parts h
  have hm := (mark_sz h3 (by omega)).2 59
  have hl : PV.dleL 58 l = true := dleL_of fun x hx => (sz_slot (h2 x hx)).2 56
  have hc : PV.dleL 58 c = true := dleL_of fun x hx => (sz_content (h6 x hx)).2 57
  simp [PV.dle, PV.dleL, hm, hl, hc]
section
variable {P : Pg} {n f fr fs fc : Nat}
theorem nearN_ok (hF : P.F f = some (cNear fr fs fc)) (hC : P.F fc = some (cContent fr fs)) (hS : P.F fs = some (cSome fr)) (hR : P.F fr = some cRoll) {c : List PV} (hc : Conts c) (h1 : 1 ≤ c.length) (h4 : c.length ≤ 1000) : Gen (callN P (n + 4) f [.r 0, .p (.tup c)]) (CSn (c.length + 2)) := by
  intro a b t hok
  rw [call_eq hF rfl]
  obtain ⟨ys, a1, b1, k1, q1, l1, e1⟩ := comp_gen (G := P.G) (k := callN P (n + 3)) (own := [3]) (i := 3) (it := .val (.var 1)) (elt := .ife (.cmp .eq (.call fr [(.var 0), (.cst (.int 3))]) (.cst (.int 0))) (.call fc [(.var 0)]) (.var 3)) (ρ := [some (.r 0), some (.p (.tup c)), none, none]) (a := a) (b := b) (t := t) (Q := fun y => isContent y = true) (xs := c) (val_eq (v := .tup c) rfl rfl) hok (by simp) (by omega) fun x hx a b t hok => by
      obtain ⟨_, a3, b3, h3, ⟨r, rfl, _, _⟩, e3⟩ := roll_ok (P := P) (n := n + 2) hR (m := 3) (by decide) (by decide) a b t hok
      cases hr : (r == 0) with
      | true =>
        obtain ⟨w, a4, b4, h4, q4, e4⟩ := content_ok (P := P) (n := n) hC hS hR a3 b3 t h3
        exact ⟨w, a4, b4, h4, cont_true q4, by simp [wipe, e3, cmpW, cmpD, cmpP, eqP_int, hr, e4]⟩
      | false => exact ⟨x, a3, b3, h3, hc x hx, by simp [wipe, e3, cmpW, cmpD, cmpP, eqP_int, hr]⟩
  obtain ⟨u, a2, b2, k2, q2, e2⟩ := content_ok (P := P) (n := n) hC hS hR a1 b1 t k1
  obtain ⟨w, a3, b3, k3, q3, e3⟩ := content_ok (P := P) (n := n) hC hS hR a2 b2 t k2
  obtain ⟨v, a4, b4, k4, q4, e4⟩ := some_ok (P := P) (n := n + 1) hS hR (xs := [.lst ys, .lst ys, .lst (ys ++ [u, w]), .lst (ys.take 1)]) (by simp) (by simp) a3 b3 t k3
  have hs : ∃ B : List PV, v = .lst B ∧ 1 ≤ B.length ∧ B.length ≤ c.length + 2 ∧ Conts B := by
    simp at q4
    rcases q4 with rfl | rfl | rfl
    · exact ⟨ys, rfl, by omega, by omega, q1⟩
    · refine ⟨_, rfl, by simp, by simp; omega, fun x hx => ?_⟩
      rw [List.mem_append] at hx
      rcases hx with hx | hx
      · exact q1 x hx
      · simp at hx
        rcases hx with rfl | rfl
        · exact cont_true q2
        · exact cont_true q3
    · exact ⟨_, rfl, by rw [List.length_take]; omega, by rw [List.length_take]; omega, fun x hx => q1 x (List.mem_of_mem_take hx)⟩
  obtain ⟨B, rfl, b1', b2', b3'⟩ := hs
  refine ⟨.tup B, a4, b4, k4, ⟨B, rfl, b1', b2', b3'⟩, ?_⟩
  have ly : ys.length + 2 ≤ 1000000 := by omega
  have ct : cutL ys none (some 1) = ys.take 1 := cut_to ys 1
  simp [cNear, startE, e1, e2, e3, binW, binP, ly, slcW, slcP, bound, ct, e4, biW, lookAll, biP]
end
section
variable {G : Nat → Option PV} {k : Ask} {W : Nat} {ρ : Env} {t : CH}
theorem forLoop_genN {f : PV → Env → CH → Res Fl} {E : Nat → Env → Prop} : ∀ {xs : List PV} (i : Nat), (∀ j, ∀ x ∈ xs, ∀ (ρ : Env) (a b : Int), i ≤ j → j < i + xs.length → E j ρ → CupOk a b → ∃ ρ' a' b', E (j + 1) ρ' ∧ CupOk a' b' ∧ f x ρ (Cup a b :: t) = .ok (.nx ρ') (Cup a' b' :: t)) →
    ∀ (ρ : Env) (a b : Int), E i ρ → CupOk a b → ∃ ρ' a' b', E (i + xs.length) ρ' ∧ CupOk a' b' ∧ forLoop none f xs ρ (Cup a b :: t) = .ok (.nx ρ') (Cup a' b' :: t)
  | [], i, _, ρ, a, b, e, h => ⟨ρ, a, b, e, h, rfl⟩
  | x :: xs, i, hf, ρ, a, b, e, h => by
    obtain ⟨ρ1, a1, b1, e1, h1, q1⟩ := hf i x List.mem_cons_self ρ a b (Nat.le_refl _) (by simp) e h
    obtain ⟨ρ2, a2, b2, e2, h2, q2⟩ := forLoop_genN (E := E) (xs := xs) (i + 1) (fun j y hy ρ a b h1 h2 => hf j y (List.mem_cons_of_mem _ hy) ρ a b (by omega) (by simp only [List.length_cons]; omega)) ρ1 a1 b1 e1 h1
    refine ⟨ρ2, a2, b2, by rw [show i + (x :: xs).length = i + 1 + xs.length by simp only [List.length_cons]; omega]; exact e2, h2, ?_⟩
    have st : forLoop none f (x :: xs) ρ (Cup a b :: t) = (f x ρ (Cup a b :: t)).bind fun fl h1 => (match fl with
      | .nx ρ1 => forLoop none f xs ρ1 h1
      | .ct ρ1 => forLoop none f xs ρ1 h1
      | .bk ρ1 => .ok (.nx ρ1) h1
      | .rt v => .ok (.rt v) h1) := rfl
    rw [st, q1]
    exact q2
theorem for_genN {tg : CG} {it : CI} {b : List CS} {xs : List PV} {E : Nat → Env → Prop} {a0 b0 a1 b1 : Int} (hi : evI G k it ρ (Cup a0 b0 :: t) = .ok (none, xs) (Cup a1 b1 :: t)) (h1 : CupOk a1 b1) (hE : E 0 ρ)
    (hf : ∀ j, ∀ x ∈ xs, ∀ (ρ : Env) (a' b' : Int), j < xs.length → E j ρ → CupOk a' b' → ∃ ρ1 ρ2 a2 b2, putG tg x ρ = some ρ1 ∧ E (j + 1) ρ2 ∧ CupOk a2 b2 ∧ evB G k W b ρ1 (Cup a' b' :: t) = .ok (.nx ρ2) (Cup a2 b2 :: t)) :
    ∃ ρ' a' b', E xs.length ρ' ∧ CupOk a' b' ∧ evS G k W (.for_ tg it b) ρ (Cup a0 b0 :: t) = .ok (.nx ρ') (Cup a' b' :: t) := by
  rw [for_eq hi]
  obtain ⟨ρ', a', b', h2, h3, h4⟩ := forLoop_genN (E := E) (t := t) (f := fun x ρ1 h2 => match putG tg x ρ1 with
    | none => (.err : Res Fl)
    | some ρ2 => evB G k W b ρ2 h2) 0 (fun j x hx ρ a' b' _ hj e h => by
    obtain ⟨ρ1, ρ2, a2, b2, e1, e2, e3, e4⟩ := hf j x hx ρ a' b' (by omega) e h
    exact ⟨ρ2, a2, b2, e2, e3, by simp only [e1]; exact e4⟩) ρ a1 b1 hE h1
  exact ⟨ρ', a', b', by rw [Nat.zero_add] at h2; exact h2, h3, h4⟩
end
end Br

set_option autoImplicit false
set_option linter.all false
set_option maxRecDepth 100000
set_option maxHeartbeats 0
namespace Br.L
/-- is_whole(value, low, high) -/
def c0 : CFun := ⟨3, 3, [(.ret (.and_ [(.isi (.var 0) [.int]), (.not_ (.isi (.var 0) [.bool])), (.cmp2 .le .le (.var 1) (.var 0) (.var 2))]))], true⟩
/-- is_tuple_of(value, low, high) -/
def c1 : CFun := ⟨3, 3, [(.ret (.and_ [(.isi (.var 0) [.tuple]), (.cmp2 .le .le (.var 1) (.bi .len [(.var 0)]) (.var 2))]))], true⟩
/-- fits_content(value, one) -/
def c2 : CFun := ⟨1, 2, [(.ret (.and_ [(.call 1 [(.var 0), (.cst (.int 0)), (.glo 0)]), (.bi .all [(.comp [1] (.nm 1) (.val (.var 0)) none (.call 0 [(.var 1), (.cst (.int 0)), (.cst (.int 255))]))])]))], true⟩
/-- fits_contents(value, one) -/
def c3 : CFun := ⟨1, 2, [(.ret (.and_ [(.call 1 [(.var 0), (.cst (.int 1)), (.glo 1)]), (.bi .all [(.comp [1] (.nm 1) (.val (.var 0)) none (.call 2 [(.var 1)]))])]))], true⟩
/-- fits_slot(value) -/
def c4 : CFun := ⟨1, 1, [(.ret (.and_ [(.call 1 [(.var 0), (.cst (.int 2)), (.cst (.int 2))]), (.call 0 [(.idx (.var 0) (.cst (.int 0))), (.cst (.int 0)), (.bin .sub (.glo 1) (.cst (.int 1)))]), (.call 2 [(.idx (.var 0) (.cst (.int 1)))])]))], true⟩
/-- fits_mark(log, value) -/
def c5 : CFun := ⟨2, 2, [(.ret (.or_ [(.cmp .is_ (.var 1) (.cst .non)), (.call 0 [(.var 1), (.cst (.int 1)), (.bi .len [(.var 0)])])]))], true⟩
/-- fits_disk(value, one) -/
def c6 : CFun := ⟨1, 2, [(.ife (.or_ [(.not_ (.call 1 [(.var 0), (.cst (.int 3)), (.cst (.int 3))])), (.not_ (.call 1 [(.idx (.var 0) (.cst (.int 1))), (.cst (.int 0)), (.glo 2)]))]) [(.ret (.cst (.bl false)))] []), (.ife (.not_ (.bi .all [(.comp [1] (.nm 1) (.val (.idx (.var 0) (.cst (.int 1)))) none (.call 4 [(.var 1)]))])) [(.ret (.cst (.bl false)))] []), (.ret (.and_ [(.call 5 [(.idx (.var 0) (.cst (.int 1))), (.idx (.var 0) (.cst (.int 0)))]), (.call 3 [(.idx (.var 0) (.cst (.int 2)))])]))], true⟩
/-- with_item(items, at, item) -/
def c7 : CFun := ⟨3, 3, [(.ret (.bin .add (.bin .add (.slc (.var 0) none (some (.var 1))) (.tup [(.var 2)])) (.slc (.var 0) (some (.bin .add (.var 1) (.cst (.int 1)))) none)))], true⟩
/-- written_to(disk, write, mark, log, blocks) -/
def c8 : CFun := ⟨2, 5, [(.asg (.tp [(.nm 2), (.nm 3), (.nm 4)]) (.var 0)), (.ife (.cmp .eq (.idx (.var 1) (.cst (.int 0))) (.cst (.str [109, 97, 114, 107]))) [(.ret (.tup [(.idx (.var 1) (.cst (.int 1))), (.var 3), (.var 4)]))] []), (.ife (.cmp .eq (.idx (.var 1) (.cst (.int 0))) (.cst (.str [108, 111, 103]))) [(.ret (.tup [(.var 2), (.call 7 [(.var 3), (.idx (.var 1) (.cst (.int 1))), (.slc (.var 1) (some (.cst (.int 2))) none)]), (.var 4)]))] []), (.ret (.tup [(.var 2), (.var 3), (.call 7 [(.bin .add (.var 4) (.bin .mul (.tup [(.tup [])]) (.bin .sub (.idx (.var 1) (.cst (.int 1))) (.bi .len [(.var 4)])))), (.idx (.var 1) (.cst (.int 1))), (.idx (.var 1) (.cst (.int 2)))])]))], true⟩
/-- all_written(disk, writes, write) -/
def c9 : CFun := ⟨2, 3, [(.for_ (.nm 2) (.val (.var 1)) [(.asg (.nm 0) (.call 8 [(.var 0), (.var 2)]))]), (.ret (.var 0))], true⟩
/-- content_at(blocks, number) -/
def c10 : CFun := ⟨2, 2, [(.ret (.ife (.cmp .lt (.var 1) (.bi .len [(.var 0)])) (.idx (.var 0) (.var 1)) (.tup [])))], true⟩
/-- turned_in(old, new, numbers, at) -/
def c11 : CFun := ⟨2, 4, [(.asg (.nm 2) (.rng [(.bi .max [(.bi .len [(.var 0)]), (.bi .len [(.var 1)])])])), (.ret (.comp [3] (.nm 3) (.val (.var 2)) (some (.cmp .ne (.call 10 [(.var 0), (.var 3)]) (.call 10 [(.var 1), (.var 3)]))) (.tup [(.var 3), (.call 10 [(.var 1), (.var 3)])])))], true⟩
/-- writes_for(disk, contents, turned, found, at, number, content) -/
def c12 : CFun := ⟨2, 7, [(.asg (.nm 2) (.call 11 [(.idx (.var 0) (.cst (.int 2))), (.var 1)])), (.ife (.cmp .eq (.var 2) (.lst [])) [(.ret (.lst []))] []), (.asg (.nm 3) (.thaw (.comp [4, 5, 6] (.tp [(.nm 4), (.tp [(.nm 5), (.nm 6)])]) (.enm (.var 2)) none (.tup [(.cst (.str [108, 111, 103])), (.var 4), (.var 5), (.var 6)])))), (.exp (.mth .append (.var 3) [(.tup [(.cst (.str [109, 97, 114, 107])), (.bi .len [(.var 2)])])])), (.ret (.bin .add (.bin .add (.var 3) (.comp [5, 6] (.tp [(.nm 5), (.nm 6)]) (.val (.var 2)) none (.tup [(.cst (.str [98, 108, 111, 99, 107])), (.var 5), (.var 6)]))) (.lst [(.tup [(.cst (.str [109, 97, 114, 107])), (.cst .non)])])))], true⟩
/-- rising_for(disk, number, content) -/
def c13 : CFun := ⟨1, 3, [(.ife (.cmp .is_ (.idx (.var 0) (.cst (.int 0))) (.cst .non)) [(.ret (.lst []))] []), (.ret (.bin .add (.comp [1, 2] (.tp [(.nm 1), (.nm 2)]) (.val (.slc (.idx (.var 0) (.cst (.int 1))) none (some (.idx (.var 0) (.cst (.int 0)))))) none (.tup [(.cst (.str [98, 108, 111, 99, 107])), (.var 1), (.var 2)])) (.lst [(.tup [(.cst (.str [109, 97, 114, 107])), (.cst .non)])])))], true⟩
/-- risen(disk, falls, fall) -/
def c14 : CFun := ⟨2, 3, [(.for_ (.nm 2) (.val (.var 1)) [(.asg (.nm 0) (.call 9 [(.var 0), (.slc (.call 13 [(.var 0)]) none (some (.var 2)))]))]), (.ret (.call 9 [(.var 0), (.call 13 [(.var 0)])]))], true⟩
/-- committed_on(disk, contents, falls, writes) -/
def c15 : CFun := ⟨3, 4, [(.asg (.nm 3) (.call 12 [(.var 0), (.var 1)])), (.ife (.cmp .eq (.var 2) (.tup [])) [(.ret (.call 9 [(.var 0), (.var 3)]))] []), (.ret (.call 14 [(.call 9 [(.var 0), (.slc (.var 3) none (some (.idx (.var 2) (.cst (.int 0)))))]), (.slc (.var 2) (some (.cst (.int 1))) none)]))], true⟩
/-- fits_falls(value, one) -/
def c16 : CFun := ⟨1, 2, [(.ret (.and_ [(.call 1 [(.var 0), (.cst (.int 0)), (.glo 3)]), (.bi .all [(.comp [1] (.nm 1) (.val (.var 0)) none (.call 0 [(.var 1), (.cst (.int 0)), (.glo 4)]))])]))], true⟩
/-- need_disk(value) -/
def c17 : CFun := ⟨1, 1, [(.ife (.not_ (.call 6 [(.var 0)])) [(.rse 0 [])] [])], true⟩
/-- need_rest(value) -/
def c18 : CFun := ⟨1, 1, [(.exp (.call 17 [(.var 0)])), (.ife (.cmp .isnot (.idx (.var 0) (.cst (.int 0))) (.cst .non)) [(.rse 0 [])] [])], true⟩
/-- need_contents(value) -/
def c19 : CFun := ⟨1, 1, [(.ife (.not_ (.call 3 [(.var 0)])) [(.rse 0 [])] [])], true⟩
/-- need_falls(value) -/
def c20 : CFun := ⟨1, 1, [(.ife (.not_ (.call 16 [(.var 0)])) [(.rse 0 [])] [])], true⟩
/-- is_disk(value) -/
def c21 : CFun := ⟨1, 1, [(.ret (.call 6 [(.var 0)]))], true⟩
/-- commit_writes(disk, contents) -/
def c22 : CFun := ⟨2, 2, [(.exp (.call 18 [(.var 0)])), (.exp (.call 19 [(.var 1)])), (.ret (.bi .tuple [(.call 12 [(.var 0), (.var 1)])]))], true⟩
/-- come_up(disk, falls) -/
def c23 : CFun := ⟨2, 2, [(.exp (.call 17 [(.var 0)])), (.exp (.call 20 [(.var 1)])), (.ret (.call 14 [(.var 0), (.var 1)]))], true⟩
/-- commit_on(disk, contents, falls) -/
def c24 : CFun := ⟨3, 3, [(.exp (.call 18 [(.var 0)])), (.exp (.call 19 [(.var 1)])), (.exp (.call 20 [(.var 2)])), (.ret (.call 15 [(.var 0), (.var 1), (.var 2)]))], true⟩
/-- _law_cup(script, cell) -/
def c25 : CFun := ⟨1, 2, [(.asg (.nm 1) (.bi .abs [(.idx (.bin .add (.bi .list [(.var 0)]) (.lst [(.cst (.int 0))])) (.cst (.int 0)))])), (.ret (.thaw (.lst [(.ife (.cmp .ge (.var 1) (.bin .pow (.cst (.int 10)) (.cst (.int 18)))) (.bin .fdiv (.var 1) (.cst (.int 113))) (.cst (.int 0))), (.bin .add (.bin .mod (.bi .int_ [(.bin .add (.bin .mul (.var 1) (.cst (.int 349))) (.cst (.int 3803)))]) (.cst (.int 2077503011))) (.cst (.int 227)))])))], false⟩
/-- _law_roll(cup, many, found, deep) -/
def c26 : CFun := ⟨2, 4, [(.ife (.cmp .gt (.idx (.var 0) (.cst (.int 0))) (.cst (.int 0))) [(.asg (.nm 2) (.bin .mod (.bi .int_ [(.idx (.var 0) (.cst (.int 0)))]) (.var 1))), (.setI (.var 0) (.cst (.int 0)) (.bin .fdiv (.idx (.var 0) (.cst (.int 0))) (.var 1))), (.ret (.var 2))] []), (.setI (.var 0) (.cst (.int 1)) (.bin .mod (.bi .int_ [(.bin .add (.bin .mul (.idx (.var 0) (.cst (.int 1))) (.cst (.int 31151))) (.cst (.int 8101)))]) (.cst (.int 2147483237)))), (.asg (.nm 3) (.bin .mod (.bi .int_ [(.bin .mul (.idx (.var 0) (.cst (.int 1))) (.bin .add (.idx (.var 0) (.cst (.int 1))) (.cst (.int 283))))]) (.cst (.int 2147483587)))), (.ret (.bin .mod (.bi .int_ [(.bin .fdiv (.var 3) (.cst (.int 883)))]) (.var 1)))], true⟩
/-- _law_some(cup, things) -/
def c27 : CFun := ⟨2, 2, [(.ret (.idx (.var 1) (.call 26 [(.var 0), (.bi .len [(.var 1)])])))], true⟩
/-- _law_content(cup, turn) -/
def c28 : CFun := ⟨1, 2, [(.ret (.bi .tuple [(.comp [1] (.nm 1) (.rng [(.call 27 [(.var 0), (.lst [(.cst (.int 0)), (.cst (.int 0)), (.cst (.int 1)), (.cst (.int 2)), (.cst (.int 3))])])]) none (.call 26 [(.var 0), (.cst (.int 256))]))]))], true⟩
/-- _law_contents(cup, most, turn) -/
def c29 : CFun := ⟨2, 3, [(.ret (.bi .tuple [(.comp [2] (.nm 2) (.rng [(.bin .add (.cst (.int 1)) (.call 26 [(.var 0), (.var 1)]))]) none (.call 28 [(.var 0)]))]))], true⟩
/-- _law_near_contents(cup, contents, found, one) -/
def c30 : CFun := ⟨2, 4, [(.asg (.nm 2) (.comp [3] (.nm 3) (.val (.var 1)) none (.ife (.cmp .eq (.call 26 [(.var 0), (.cst (.int 3))]) (.cst (.int 0))) (.call 28 [(.var 0)]) (.var 3)))), (.ret (.bi .tuple [(.call 27 [(.var 0), (.lst [(.var 2), (.var 2), (.bin .add (.var 2) (.lst [(.call 28 [(.var 0)]), (.call 28 [(.var 0)])])), (.slc (.var 2) none (some (.cst (.int 1))))])])]))], true⟩
/-- _law_at(blocks, number) -/
def c31 : CFun := ⟨2, 2, [(.ret (.ife (.cmp .lt (.var 1) (.bi .len [(.var 0)])) (.idx (.var 0) (.var 1)) (.tup [])))], true⟩
/-- _law_alike_blocks(one, other, number) -/
def c32 : CFun := ⟨2, 3, [(.ret (.cmp .eq (.comp [2] (.nm 2) (.rng [(.bi .max [(.bi .len [(.var 0)]), (.bi .len [(.var 1)])])]) (some (.cmp .ne (.call 31 [(.var 0), (.var 2)]) (.call 31 [(.var 1), (.var 2)]))) (.var 2)) (.lst [])))], true⟩
/-- _law_commit(disk, contents, old, found, numbers, at, number, more) -/
def c33 : CFun := ⟨2, 8, [(.par [2, 3] [(.idx (.var 0) (.cst (.int 2))), (.thaw (.lst []))]), (.asg (.nm 4) (.comp [5] (.nm 5) (.rng [(.bi .max [(.bi .len [(.var 2)]), (.bi .len [(.var 1)])])]) (some (.cmp .ne (.call 31 [(.var 2), (.var 5)]) (.call 31 [(.var 1), (.var 5)]))) (.var 5))), (.for_ (.tp [(.nm 5), (.nm 6)]) (.enm (.var 4)) [(.exp (.mth .append (.var 3) [(.tup [(.cst (.str [108, 111, 103])), (.var 5), (.var 6), (.call 31 [(.var 1), (.var 6)])])]))]), (.asg (.nm 7) (.comp [6] (.nm 6) (.val (.var 4)) none (.tup [(.cst (.str [98, 108, 111, 99, 107])), (.var 6), (.call 31 [(.var 1), (.var 6)])]))), (.ret (.ife (.cmp .ne (.var 4) (.lst [])) (.bin .add (.bin .add (.bin .add (.var 3) (.lst [(.tup [(.cst (.str [109, 97, 114, 107])), (.bi .len [(.var 4)])])])) (.var 7)) (.lst [(.tup [(.cst (.str [109, 97, 114, 107])), (.cst .non)])])) (.lst [])))], true⟩
/-- _law_falls(cup, most, turn) -/
def c34 : CFun := ⟨2, 3, [(.ret (.bi .tuple [(.comp [2] (.nm 2) (.rng [(.call 27 [(.var 0), (.lst [(.cst (.int 0)), (.cst (.int 1)), (.cst (.int 1)), (.cst (.int 2)), (.cst (.int 3))])])]) none (.call 26 [(.var 0), (.bin .add (.var 1) (.cst (.int 1)))]))]))], true⟩
/-- _law_two_disks() -/
def c35 : CFun := ⟨0, 0, [(.ret (.tup [(.tup [(.cst .non), (.tup []), (.tup [(.tup [(.cst (.int 1)), (.cst (.int 0)), (.cst (.int 0))]), (.tup [(.cst (.int 7))])])]), (.tup [(.cst (.int 2)), (.tup [(.tup [(.cst (.int 1)), (.tup [(.cst (.int 8)), (.cst (.int 9))])]), (.tup [(.cst (.int 3)), (.tup [(.cst (.int 5))])]), (.tup [(.cst (.int 0)), (.tup [(.cst (.int 4))])])]), (.tup [(.tup [(.cst (.int 1)), (.cst (.int 0)), (.cst (.int 0))]), (.tup [(.cst (.int 8)), (.cst (.int 9))])])])]))], true⟩
/-- law(script, cup, disk, blocks, turn, contents, many, falls, quiet, value) -/
def c36 : CFun := ⟨1, 10, [(.asg (.nm 1) (.call 25 [(.var 0)])), (.asg (.nm 2) (.tup [(.cst .non), (.tup []), (.call 29 [(.var 1), (.cst (.int 3))])])), (.asg (.nm 3) (.idx (.var 2) (.cst (.int 2)))), (.for_ (.nm 4) (.rng [(.bin .add (.cst (.int 3)) (.call 26 [(.var 1), (.cst (.int 8))]))]) [(.asg (.nm 5) (.call 27 [(.var 1), (.lst [(.call 30 [(.var 1), (.var 3)]), (.call 30 [(.var 1), (.var 3)]), (.call 29 [(.var 1), (.cst (.int 4))]), (.var 3)])])), (.par [6, 7] [(.bi .len [(.call 33 [(.var 2), (.var 5)])]), (.call 34 [(.var 1), (.cst (.int 8))])]), (.ife (.cmp .ne (.bi .len [(.call 22 [(.var 2), (.var 5)])]) (.var 6)) [(.ret (.cst (.bl false)))] []), (.asg (.nm 2) (.call 24 [(.var 2), (.var 5), (.var 7)])), (.ife (.or_ [(.cmp .isnot (.call 21 [(.var 2)]) (.cst (.bl true))), (.cmp .isnot (.idx (.var 2) (.cst (.int 0))) (.cst .non)), (.cmp .ne (.call 23 [(.var 2), (.var 7)]) (.var 2))]) [(.ret (.cst (.bl false)))] []), (.ife (.or_ [(.cmp .eq (.var 7) (.tup [])), (.cmp .eq (.var 6) (.cst (.int 0))), (.cmp .gt (.bin .mul (.cst (.int 2)) (.idx (.var 7) (.cst (.int 0)))) (.bin .sub (.var 6) (.cst (.int 2))))]) [(.asg (.nm 3) (.var 5))] []), (.ife (.not_ (.call 32 [(.idx (.var 2) (.cst (.int 2))), (.var 3)])) [(.ret (.cst (.bl false)))] [])]), (.asg (.nm 8) (.idx (.call 35 []) (.cst (.int 0)))), (.par [2, 9] [(.var 8), (.call 26 [(.var 1), (.cst (.int 250))])]), (.for_ (.nm 4) (.rng [(.cst (.int 10))]) [(.asg (.nm 2) (.call 24 [(.var 2), (.tup [(.tup [(.var 9)]), (.tup [(.var 9), (.cst (.int 1))]), (.tup [(.var 4)])]), (.tup [(.cst (.int 3)), (.var 4)])]))]), (.ife (.or_ [(.cmp .ne (.idx (.var 2) (.cst (.int 2))) (.idx (.var 8) (.cst (.int 2)))), (.cmp .ne (.bi .len [(.idx (.var 2) (.cst (.int 1)))]) (.cst (.int 3)))]) [(.ret (.cst (.bl false)))] []), (.asg (.nm 2) (.call 24 [(.var 2), (.tup [(.tup [(.var 9)]), (.tup [(.cst (.int 7))])]), (.tup [(.cst (.int 2)), (.cst (.int 0)), (.cst (.int 0)), (.cst (.int 1))])])), (.ret (.and_ [(.cmp .eq (.idx (.var 2) (.cst (.int 2))) (.tup [(.tup [(.var 9)]), (.tup [(.cst (.int 7))])])), (.cmp .eq (.slc (.idx (.var 2) (.cst (.int 1))) (some (.cst (.int 1))) none) (.tup [(.tup [(.cst (.int 1)), (.tup [(.var 9), (.cst (.int 1))])]), (.tup [(.cst (.int 2)), (.tup [(.cst (.int 9))])])]))]))], true⟩
def F : Nat → Option CFun
  | 0 => some c0
  | 1 => some c1
  | 2 => some c2
  | 3 => some c3
  | 4 => some c4
  | 5 => some c5
  | 6 => some c6
  | 7 => some c7
  | 8 => some c8
  | 9 => some c9
  | 10 => some c10
  | 11 => some c11
  | 12 => some c12
  | 13 => some c13
  | 14 => some c14
  | 15 => some c15
  | 16 => some c16
  | 17 => some c17
  | 18 => some c18
  | 19 => some c19
  | 20 => some c20
  | 21 => some c21
  | 22 => some c22
  | 23 => some c23
  | 24 => some c24
  | 25 => some c25
  | 26 => some c26
  | 27 => some c27
  | 28 => some c28
  | 29 => some c29
  | 30 => some c30
  | 31 => some c31
  | 32 => some c32
  | 33 => some c33
  | 34 => some c34
  | 35 => some c35
  | 36 => some c36
  | _ => none
def G : Nat → Option PV
  | 0 => some (.int 512)
  | 1 => some (.int 1000)
  | 2 => some (.int 1000)
  | 3 => some (.int 10)
  | 4 => some (.int 10000)
  | _ => none
def P : Pg := ⟨F, G, 100000⟩
end Br.L

set_option autoImplicit false
set_option linter.all false
set_option maxRecDepth 100000
set_option maxHeartbeats 8000000
set_option pp.maxSteps 400
namespace Br.L
theorem near_l (n : Nat) {c : List PV} (hc : Conts c) (h1 : 1 ≤ c.length) (h4 : c.length ≤ 1000) : Gen (callN P (n + 4) 30 [.r 0, .p (.tup c)]) (CSn (c.length + 2)) := nearN_ok (P := P) (fr := 26) (fs := 27) (fc := 28) rfl rfl rfl rfl hc h1 h4
theorem contents_l (n m : Nat) (h0 : 0 < m) (h1 : m ≤ 1000) : Gen (callN P (n + 4) 29 [.r 0, .p (.int (m : Nat))]) (CSn m) := fun a b t hc => by
  obtain ⟨v, a', b', h', ⟨xs, rfl, h1, h2, h3⟩, e⟩ := contents_ok (P := P) (n := n) (ft := 29) (fr := 26) (fc := 28) (fs := 27) (m := m) rfl rfl rfl rfl (by omega) (by omega) a b t hc
  exact ⟨_, a', b', h', ⟨xs, rfl, h1, by omega, fun x hx => cont_true (h3 x hx)⟩, e⟩
theorem falls_l (n m : Nat) (hm : m ≤ 1000) : Gen (callN P (n + 3) 34 [.r 0, .p (.int (m : Nat))]) (FallsUpTo m) := falls_ok (P := P) (m := m) (fr := 26) (fs := 27) rfl rfl rfl hm
theorem fits_disk_l (n : Nat) (h : CH) (v : PV) : callN P (n + 4) 6 [.p v] h = .ok (.p (.bl (isDisk v))) h := fits_disk_ok (P := P) (fw := 0) (ft := 1) (fc := 2) (fs := 4) (fm := 5) (fcs := 3) (g := 0) (g2 := 1) (g3 := 2) rfl rfl rfl rfl rfl rfl rfl rfl rfl rfl v
theorem fits_contents_l (n : Nat) (h : CH) (v : PV) : callN P (n + 3) 3 [.p v] h = .ok (.p (.bl (isContents v))) h := fits_contents_ok (P := P) (fw := 0) (ft := 1) (fc := 2) (g := 0) (g2 := 1) rfl rfl rfl rfl rfl rfl v
theorem need_l (n : Nat) (h : CH) (v : PV) (hd : isDisk v = true) : callN P (n + 5) 17 [.p v] h = .ok (.p .non) h := by
  rw [call_eq (rfl : P.F 17 = some c17) rfl]
  simp [c17, startE, fits_disk_l, hd]
theorem rest_l (n : Nat) (h : CH) (l c : PV) (hd : isDisk (.tup [.non, l, c]) = true) : callN P (n + 6) 18 [.p (.tup [.non, l, c])] h = .ok (.p .non) h := by
  rw [call_eq (rfl : P.F 18 = some c18) rfl]
  simp [c18, startE, need_l n h _ hd, idxW, idxP, atI, ixN, cmpW, cmpD, cmpP, isP, isNon]
theorem needc_l (n : Nat) (h : CH) (v : PV) (hd : isContents v = true) : callN P (n + 4) 19 [.p v] h = .ok (.p .non) h := by
  rw [call_eq (rfl : P.F 19 = some c19) rfl]
  simp [c19, startE, fits_contents_l, hd]
/-- falls that fit -/
def fitF (fs : List PV) : Bool := decide (fs.length ≤ 10) && fs.all fun x => isWhole x 0 10000
theorem fits_falls_l (n : Nat) (h : CH) (fs : List PV) (hf : fitF fs = true) : callN P (n + 2) 16 [.p (.tup fs)] h = .ok (.p (.bl true)) h := by
  rw [call_eq (rfl : P.F 16 = some c16) rfl]
  unfold fitF at hf
  rw [Bool.and_eq_true] at hf
  have hl : fs.length ≤ 10 := of_decide_eq_true hf.1
  have t := is_tuple_ok (P := P) (n := n) (h := h) (f := 1) rfl (.tup fs) 0 10
  have cmp : evE P.G (callN P (n + 1)) (.comp [1] (.nm 1) (.val (.var 0)) none (.call 0 [(.var 1), (.cst (.int 0)), (.glo 4)])) [some (.p (.tup fs)), none] h = .ok (.p (.lst (fs.filterMap fun x => some (.bl (isWhole x 0 10000))))) h := by
    refine comp_eq (xs := fs) (h1 := h) (val_eq rfl rfl) (by simp) (by omega) fun x hx => .inl ⟨_, rfl, rfl, ?_⟩
    have e := is_whole_ok (P := P) (n := n) (h := h) (f := 0) rfl x 0 10000
    have hg2 : P.G 4 = some (.int 10000) := rfl
    simp [wipe, e, hg2]
  have al := all_eq (p := fun x => isWhole x 0 10000) cmp
  have tl : isTup (.tup fs) 0 10 = true := by simp [isTup]; omega
  rw [tl] at t
  rw [hf.2] at al
  have hg : P.G 3 = some (.int 10) := rfl
  simp only [ev_bi, evs_cons, evs_nil, ok_bind] at al
  simp [c16, startE, hg, t, al]
theorem needf_l (n : Nat) (h : CH) (fs : List PV) (hf : fitF fs = true) : callN P (n + 3) 20 [.p (.tup fs)] h = .ok (.p .non) h := by
  rw [call_eq (rfl : P.F 20 = some c20) rfl]
  simp [c20, startE, fits_falls_l n h fs hf]
theorem wr_l (n : Nat) (h : CH) (d : Dk) (w : PV) (hd : isDisk d.pv = true) (hw : isWrite d.l.length w = true) : callN P (n + 2) 8 [.p d.pv, .p w] h = .ok (.p (wr d w).pv) h := by
  have hl := dk_len hd
  have e := written_to_ok (P := P) (n := n) (h := h) (f := 8) (fi := 7) rfl rfl d.m d.l d.c w hw (by omega) (by omega)
  rw [wr_pv hw] at e
  exact e
theorem all_l (n : Nat) (h : CH) (d : Dk) (ws : List PV) (hd : isDisk d.pv = true) (hw : Wrs d ws) : callN P (n + 3) 9 [.p d.pv, .p (.lst ws)] h = .ok (.p (wrs d ws).pv) h :=
  all_written_ok (P := P) (n := n + 2) (f := 9) (fw := 8) rfl (fun d w => wr_l n h d w) d ws _ (.inl rfl) hd hw
theorem rising_l (n : Nat) (h : CH) (d : Dk) (hd : isDisk d.pv = true) : callN P (n + 1) 13 [.p d.pv] h = .ok (.p (.lst (rising d))) h := rising_ok (P := P) rfl d hd
theorem risen_l (n : Nat) (h : CH) (d : Dk) (fs : List PV) (hd : isDisk d.pv = true) (hf : Falls fs) : callN P (n + 4) 14 [.p d.pv, .p (.tup fs)] h = .ok (.p (up d fs).pv) h :=
  risen_ok (P := P) (n := n + 3) (fa := 9) (fr := 13) rfl (fun d => rising_l (n + 2) h d) (fun d ws => all_l n h d ws) d fs hd hf
theorem fitF_falls {fs : List PV} (hf : fitF fs = true) : Falls fs := by
  unfold fitF at hf
  rw [Bool.and_eq_true] at hf
  intro x hx
  have := List.all_eq_true.mp hf.2 x hx
  cases x <;> simp [isWhole] at this
  rename_i i
  obtain ⟨k, rfl⟩ := Int.eq_ofNat_of_zero_le this.1
  exact ⟨k, rfl⟩
/-- commit_on -/
theorem commit_on_l (n : Nat) (h : CH) (l c B fs : List PV) (hd : isDisk (.tup [.non, .tup l, .tup c]) = true) (hB : isContents (.tup B) = true) (hf : fitF fs = true) : callN P (n + 7) 24 [.p (.tup [.non, .tup l, .tup c]), .p (.tup B), .p (.tup fs)] h = .ok (.p (com ⟨.non, l, c⟩ B fs).pv) h := by
  rw [call_eq (rfl : P.F 24 = some c24) rfl]
  obtain ⟨m', l', c', e, h1, h2, h3, h4, h5, h6⟩ := disk_parts hd
  cases e
  have hBl : B.length ≤ 1000 := by simp [isContents] at hB; omega
  have hBc : Conts B := by simp [isContents] at hB; exact hB.2
  have e3 := writes_for_ok (P := P) (n := n + 2) (h := h) (f := 12) (ft := 11) (fa := 10) rfl rfl rfl .non (.tup l) c B h6 h5 hBl
  have e4 := committed_ok (P := P) (n := n + 5) (h := h) (f := 15) (fw := 12) (fa := 9) (fr := 14) (d := ⟨.non, l, c⟩) (B := B) rfl hd rfl hBc hBl e3 (fun d ws => all_l (n + 2) h d ws) (fun d fs => risen_l (n + 1) h d fs) fs (fitF_falls hf)
  have e4' : callN P (n + 6) 15 [.p (.tup [.non, .tup l, .tup c]), .p (.tup B), .p (.tup fs)] h = .ok (.p (com ⟨.non, l, c⟩ B fs).pv) h := e4
  simp [c24, startE, rest_l n h _ _ hd, needc_l (n + 2) h _ hB, needf_l (n + 3) h fs hf, e4']
theorem lcommit_l (n : Nat) (h : CH) (m l : PV) (A B : List PV) (ha : Conts A) (hl : A.length ≤ 1000) (hl2 : B.length ≤ 1000) : callN P (n + 2) 33 [.p (.tup [m, l, .tup A]), .p (.tup B)] h = .ok (.p (.lst (commit A B))) h := law_commit_ok (P := P) (fa := 31) rfl rfl m l A B ha hl hl2
theorem alike_l (n : Nat) (h : CH) (A B : List PV) (ha : Conts A) (hl : A.length ≤ 1000) (hl2 : B.length ≤ 1000) : callN P (n + 2) 32 [.p (.tup A), .p (.tup B)] h = .ok (.p (.bl (turned A B).isEmpty)) h := alike_ok (P := P) (fa := 31) rfl rfl A B ha hl hl2
theorem is_disk_l (n : Nat) (h : CH) (v : PV) : callN P (n + 5) 21 [.p v] h = .ok (.p (.bl (isDisk v))) h := by
  rw [call_eq (rfl : P.F 21 = some c21) rfl]
  simp [c21, startE, fits_disk_l]
theorem come_up_l (n : Nat) (h : CH) (d : Dk) (fs : List PV) (hd : isDisk d.pv = true) (hf : fitF fs = true) : callN P (n + 6) 23 [.p d.pv, .p (.tup fs)] h = .ok (.p (up d fs).pv) h := by
  rw [call_eq (rfl : P.F 23 = some c23) rfl]
  have e2 := risen_l (n + 1) h d fs hd (fitF_falls hf)
  simp [c23, startE, need_l n h _ hd, needf_l (n + 2) h fs hf, e2]
theorem commit_l (n : Nat) (h : CH) (l c B : List PV) (hd : isDisk (.tup [.non, .tup l, .tup c]) = true) (hB : isContents (.tup B) = true) : callN P (n + 7) 22 [.p (.tup [.non, .tup l, .tup c]), .p (.tup B)] h = .ok (.p (.tup (commit c B))) h := by
  rw [call_eq (rfl : P.F 22 = some c22) rfl]
  obtain ⟨m', l', c', e, h1, h2, h3, h4, h5, h6⟩ := disk_parts hd
  cases e
  have hBl : B.length ≤ 1000 := by simp [isContents] at hB; omega
  have e3 := writes_for_ok (P := P) (n := n + 3) (h := h) (f := 12) (ft := 11) (fa := 10) rfl rfl rfl .non (.tup l) c B h6 h5 hBl
  simp [c22, startE, rest_l n h _ _ hd, needc_l (n + 2) h _ hB, e3, biW, lookAll, biP]
end Br.L

set_option autoImplicit false
set_option linter.all false
set_option maxRecDepth 100000
set_option maxHeartbeats 8000000
set_option pp.maxSteps 400
namespace Br.L
def body0 : List CS := [(.asg (.nm 5) (.call 27 [(.var 1), (.lst [(.call 30 [(.var 1), (.var 3)]), (.call 30 [(.var 1), (.var 3)]), (.call 29 [(.var 1), (.cst (.int 4))]), (.var 3)])])), (.par [6, 7] [(.bi .len [(.call 33 [(.var 2), (.var 5)])]), (.call 34 [(.var 1), (.cst (.int 8))])]), (.ife (.cmp .ne (.bi .len [(.call 22 [(.var 2), (.var 5)])]) (.var 6)) [(.ret (.cst (.bl false)))] []), (.asg (.nm 2) (.call 24 [(.var 2), (.var 5), (.var 7)])), (.ife (.or_ [(.cmp .isnot (.call 21 [(.var 2)]) (.cst (.bl true))), (.cmp .isnot (.idx (.var 2) (.cst (.int 0))) (.cst .non)), (.cmp .ne (.call 23 [(.var 2), (.var 7)]) (.var 2))]) [(.ret (.cst (.bl false)))] []), (.ife (.or_ [(.cmp .eq (.var 7) (.tup [])), (.cmp .eq (.var 6) (.cst (.int 0))), (.cmp .gt (.bin .mul (.cst (.int 2)) (.idx (.var 7) (.cst (.int 0)))) (.bin .sub (.var 6) (.cst (.int 2))))]) [(.asg (.nm 3) (.var 5))] []), (.ife (.not_ (.call 32 [(.idx (.var 2) (.cst (.int 2))), (.var 3)])) [(.ret (.cst (.bl false)))] [])]
def loop0 : CS := (.for_ (.nm 4) (.rng [(.bin .add (.cst (.int 3)) (.call 26 [(.var 1), (.cst (.int 8))]))]) body0)
def loop1 : CS := (.for_ (.nm 4) (.rng [(.cst (.int 10))]) [(.asg (.nm 2) (.call 24 [(.var 2), (.tup [(.tup [(.var 9)]), (.tup [(.var 9), (.cst (.int 1))]), (.tup [(.var 4)])]), (.tup [(.cst (.int 3)), (.var 4)])]))])
theorem split_ok : c36.body = .asg (.nm 1) (.call 25 [.var 0]) :: .asg (.nm 2) (.tup [(.cst .non), (.tup []), (.call 29 [(.var 1), (.cst (.int ((3 : Nat) : Int)))])]) :: .asg (.nm 3) (.idx (.var 2) (.cst (.int 2))) :: loop0 :: .asg (.nm 8) (.idx (.call 35 []) (.cst (.int 0))) :: .par [2, 9] [(.var 8), (.call 26 [(.var 1), (.cst (.int 250))])] :: loop1 :: c36.body.drop 7 := rfl
structure DI (i : Nat) (l c B0 : List PV) : Prop where
  hd : isDisk (.tup [.non, .tup l, .tup c]) = true
  h1 : 1 ≤ B0.length
  h2 : B0.length ≤ 4 + 2 * i
  hB : Conts B0
  al : (turned c B0).isEmpty = true
def E0 (ns : List Int) (i : Nat) (ρ : Env) : Prop := ∃ l c B0 s4 s5 s6 s7, ρ = [some (.s ns), some (.r 0), some (.p (.tup [.non, .tup l, .tup c])), some (.p (.tup B0)), s4, s5, s6, s7, none, none] ∧ DI i l c B0
theorem conts_of {B : List PV} (h1 : 1 ≤ B.length) (h6 : B.length ≤ 1000) (hB : Conts B) : isContents (.tup B) = true := by
  simp only [isContents, Bool.and_eq_true, decide_eq_true_eq, List.all_eq_true]
  exact ⟨⟨h1, by omega⟩, hB⟩
theorem fitF_of {m : Nat} {fs : List PV} (hm : m ≤ 10000) (h : FallsUpTo m (.tup fs)) : fitF fs = true ∧ fs.length ≤ 3 := by
  obtain ⟨fs', e, hl, hx⟩ := h
  cases e
  refine ⟨?_, hl⟩
  simp only [fitF, Bool.and_eq_true, decide_eq_true_eq, List.all_eq_true]
  refine ⟨by omega, fun y hy => ?_⟩
  obtain ⟨i, rfl, hi⟩ := hx y hy
  simp [isWhole]; omega
/-- one turn's facts, from its draws on -/
theorem turn_facts {i : Nat} {l c B0 B fs : List PV} (D : DI i l c B0) (hi : i ≤ 20) (hB1 : 1 ≤ B.length) (hB2 : B.length ≤ 4 + 2 * (i + 1)) (hB : Conts B) (hf : fitF fs = true) (h : CH) :
    ∃ lt ct, callN P 11 33 [.p (.tup [.non, .tup l, .tup c]), .p (.tup B)] h = .ok (.p (.lst (commit c B))) h ∧ callN P 11 22 [.p (.tup [.non, .tup l, .tup c]), .p (.tup B)] h = .ok (.p (.tup (commit c B))) h ∧
      callN P 11 24 [.p (.tup [.non, .tup l, .tup c]), .p (.tup B), .p (.tup fs)] h = .ok (.p (.tup [.non, .tup lt, .tup ct])) h ∧ callN P 11 21 [.p (.tup [.non, .tup lt, .tup ct])] h = .ok (.p (.bl true)) h ∧
      callN P 11 23 [.p (.tup [.non, .tup lt, .tup ct]), .p (.tup fs)] h = .ok (.p (.tup [.non, .tup lt, .tup ct])) h ∧ eqP (.tup [.non, .tup lt, .tup ct]) (.tup [.non, .tup lt, .tup ct]) = some true ∧
      DI (i + 1) lt ct (if isNewF c B fs then B else B0) ∧ callN P 11 32 [.p (.tup ct), .p (.tup (if isNewF c B fs then B else B0))] h = .ok (.p (.bl true)) h := by
  have hd := D.hd
  have hBc := conts_of hB1 (by omega) hB
  obtain ⟨m', l', c', e0, k1, k2, k3, k4, k5, k6⟩ := disk_parts hd
  cases e0
  obtain ⟨lt, hlt, ec⟩ := com_eq (d := ⟨.non, l, c⟩) (B := B) hd rfl hB (by omega) fs (fitF_falls hf)
  have hcd := com_disk (d := ⟨.non, l, c⟩) (B := B) hd rfl hB (by omega) fs (fitF_falls hf)
  have i1 := commit_on_l 4 h l c B fs hd hBc hf
  rw [ec] at i1 hcd
  have hcd' : isDisk (.tup [.non, .tup lt, .tup (if isNewF c B fs then newC c B else c)]) = true := hcd
  have i1' : callN P 11 24 [.p (.tup [.non, .tup l, .tup c]), .p (.tup B), .p (.tup fs)] h = .ok (.p (.tup [.non, .tup lt, .tup (if isNewF c B fs then newC c B else c)])) h := i1
  have al : (turned (if isNewF c B fs then newC c B else c) (if isNewF c B fs then B else B0)).isEmpty = true := by
    split
    · exact turned_new c B
    · exact D.al
  generalize (if isNewF c B fs then newC c B else c) = ct at hcd' i1' al
  obtain ⟨m2, l2, c2, e2, p1, p2, p3, p4, p5, p6⟩ := disk_parts hcd'
  cases e2
  have hu : up ⟨.non, lt, ct⟩ fs = ⟨.non, lt, ct⟩ := up_eq (T := ct) (ps := []) fs ⟨.non, lt, ct⟩ (fun x hx => let ⟨i, e⟩ := fitF_falls hf x hx; ⟨i, e⟩) p2 (.inl ⟨rfl, rfl⟩)
  have i3 := come_up_l 5 h ⟨.non, lt, ct⟩ fs hcd' hf
  rw [hu] at i3
  have i4 := is_disk_l 6 h (.tup [.non, .tup lt, .tup ct])
  rw [hcd'] at i4
  have q := alike_l 9 h ct (if isNewF c B fs then B else B0) p6 p5 (by have := D.h2; split <;> omega)
  rw [al] at q
  refine ⟨lt, ct, lcommit_l 9 h .non (.tup l) c B k6 k5 (by omega), commit_l 4 h l c B hd hBc, i1', i4, i3, eqP_refl (disk_dle hcd'), ⟨hcd', ?_, ?_, ?_, al⟩, q⟩
  · split
    · exact hB1
    · exact D.h1
  · have := D.h2
    split <;> omega
  · split
    · exact hB
    · exact D.hB
theorem outer (ns : List Int) (i : Nat) (x : PV) (ρ : Env) (a b : Int) (hi : i ≤ 20) (hE : E0 ns i ρ) (hc : CupOk a b) : ∃ ρ1 ρ2 a2 b2, putG (.nm 4) x ρ = some ρ1 ∧ E0 ns (i + 1) ρ2 ∧ CupOk a2 b2 ∧ evB P.G (callN P 11) P.W body0 ρ1 (Cup a b :: []) = .ok (.nx ρ2) (Cup a2 b2 :: []) := by
  obtain ⟨l, c, B0, s4, s5, s6, s7, rfl, D⟩ := hE
  have hb := D.h2
  obtain ⟨v1, a1, b1, h1, ⟨B1, rfl, q11, q12, q13⟩, e1⟩ := near_l 7 D.hB D.h1 (by omega) a b [] hc
  obtain ⟨v2, a2, b2, h2, ⟨B2, rfl, q21, q22, q23⟩, e2⟩ := near_l 7 D.hB D.h1 (by omega) a1 b1 [] h1
  obtain ⟨v3, a3, b3, h3, ⟨B3, rfl, q31, q32, q33⟩, e3⟩ := contents_l 7 4 (by decide) (by decide) a2 b2 [] h2
  obtain ⟨v, a4, b4, h4, q, e4⟩ := some_ok (P := P) (n := 9) (fs := 27) (fr := 26) rfl rfl (xs := [.tup B1, .tup B2, .tup B3, .tup B0]) (by simp) (by simp) a3 b3 [] h3
  have hv : ∃ B, v = .tup B ∧ 1 ≤ B.length ∧ B.length ≤ 4 + 2 * (i + 1) ∧ Conts B := by
    simp at q
    rcases q with rfl | rfl | rfl | rfl
    · exact ⟨_, rfl, q11, by omega, q13⟩
    · exact ⟨_, rfl, q21, by omega, q23⟩
    · exact ⟨_, rfl, q31, by omega, q33⟩
    · exact ⟨_, rfl, D.h1, by omega, D.hB⟩
  obtain ⟨B, rfl, hB1, hB2, hB⟩ := hv
  obtain ⟨fv, a5, b5, h5, hf0, e5⟩ := falls_l 8 8 (by decide) a4 b4 [] h4
  have hf1 := hf0
  obtain ⟨fs, rfl, _, hfx⟩ := hf1
  obtain ⟨hf, hfl⟩ := fitF_of (by decide) hf0
  obtain ⟨lt, ct, g1, g2, g3, g4, g5, g6, D2, g7⟩ := turn_facts D hi hB1 hB2 hB hf [Cup a5 b5]
  have g1' : callN P 11 33 [.p (.tup [.non, .tup l, .tup c]), .p (.tup B)] [Cup a4 b4] = .ok (.p (.lst (commit c B))) [Cup a4 b4] := (turn_facts D hi hB1 hB2 hB hf [Cup a4 b4]).choose_spec.choose_spec.1
  have e3' : callN P 11 29 [.r 0, .p (.int 4)] [Cup a2 b2] = .ok (.p (.tup B3)) [Cup a3 b3] := e3
  have e5' : callN P 11 34 [.r 0, .p (.int 8)] [Cup a4 b4] = .ok (.p (.tup fs)) [Cup a5 b5] := e5
  refine ⟨[some (.s ns), some (.r 0), some (.p (.tup [.non, .tup l, .tup c])), some (.p (.tup B0)), some (.p x), s5, s6, s7, none, none],
    [some (.s ns), some (.r 0), some (.p (.tup [.non, .tup lt, .tup ct])), some (.p (.tup (if isNewF c B fs then B else B0))), some (.p x), some (.p (.tup B)), some (.p (.int ((commit c B).length : Nat))), some (.p (.tup fs)), none, none], a5, b5, rfl, ⟨lt, ct, _, _, _, _, _, rfl, D2⟩, h5, ?_⟩
  have mid : ∀ (cnd : Bool) (tl : List CS), isNewF c B fs = cnd → evB P.G (callN P 11) P.W [.ife (.or_ [(.cmp .eq (.var 7) (.tup [])), (.cmp .eq (.var 6) (.cst (.int 0))), (.cmp .gt (.bin .mul (.cst (.int 2)) (.idx (.var 7) (.cst (.int 0)))) (.bin .sub (.var 6) (.cst (.int 2))))]) [(.asg (.nm 3) (.var 5))] [], (.ife (.not_ (.call 32 [(.idx (.var 2) (.cst (.int 2))), (.var 3)])) [(.ret (.cst (.bl false)))] [])]
      [some (.s ns), some (.r 0), some (.p (.tup [.non, .tup lt, .tup ct])), some (.p (.tup B0)), some (.p x), some (.p (.tup B)), some (.p (.int ((commit c B).length : Nat))), some (.p (.tup fs)), none, none] [Cup a5 b5] =
      .ok (.nx [some (.s ns), some (.r 0), some (.p (.tup [.non, .tup lt, .tup ct])), some (.p (.tup (if cnd then B else B0))), some (.p x), some (.p (.tup B)), some (.p (.int ((commit c B).length : Nat))), some (.p (.tup fs)), none, none]) [Cup a5 b5] := by
    intro cnd _ hcnd
    rw [hcnd] at g7
    have hz : eqP (.int ((commit c B).length : Nat)) (.int 0) = some (commit c B).isEmpty := by
      rw [eqP_int]
      cases commit c B with
      | nil => rfl
      | cons z zs => simp; omega
    cases fs with
    | nil =>
      have : cnd = true := hcnd.symm
      subst this
      simp only [if_true] at g7
      simp [cmpW, cmpD, cmpP, eqP_nilT, idxW, idxP, atI, ixN, g7]
    | cons y fs =>
      obtain ⟨p, rfl, hp⟩ := hfx y List.mem_cons_self
      have isn : ((commit c B).isEmpty || decide (((commit c B).length : Int) - 2 < 2 * (p : Int))) = cnd := by
        rw [← hcnd]
        show _ = isNew c B p
        unfold isNew
        congr 1
        exact decide_eq_decide.mpr (by omega)
      have mo : mulOk 2 (p : Int) = true := by unfold mulOk wideB; simp
      cases cnd with
      | true =>
        simp only [if_true] at g7 ⊢
        simp [cmpW, cmpD, cmpP, eqP_nilT, hz, idxW, idxP, atI, ixN, binW, binP, mo, ltP]
        rw [isn]
        simp [g7]
      | false =>
        simp only [Bool.false_eq_true, if_false] at g7 ⊢
        simp [cmpW, cmpD, cmpP, eqP_nilT, hz, idxW, idxP, atI, ixN, binW, binP, mo, ltP]
        rw [isn]
        simp [g7]
  have mid' := mid _ [] rfl
  generalize hT : [CS.ife (.or_ [(.cmp .eq (.var 7) (.tup [])), (.cmp .eq (.var 6) (.cst (.int 0))), (.cmp .gt (.bin .mul (.cst (.int 2)) (.idx (.var 7) (.cst (.int 0)))) (.bin .sub (.var 6) (.cst (.int 2))))]) [(.asg (.nm 3) (.var 5))] [], (.ife (.not_ (.call 32 [(.idx (.var 2) (.cst (.int 2))), (.var 3)])) [(.ret (.cst (.bl false)))] [])] = T at mid'
  have hb0 : body0 = body0.take 5 ++ T := by rw [← hT]; rfl
  rw [hb0]
  have t5 : body0.take 5 = [body0.headD .pass, (body0.drop 1).headD .pass, (body0.drop 2).headD .pass, (body0.drop 3).headD .pass, (body0.drop 4).headD .pass] := rfl
  clear hT hb0 mid
  simp only [body0, List.take, List.cons_append, List.nil_append]
  simp [e1, e2, e3', idxW, idxP, atI, ixN]
  simp at e4
  simp [e4, g1', e5', biW, lookAll, biP, lenP, g1, g2, g3, g4, g5, g6, cmpW, cmpD, cmpP, eqP_int, isP, isNon, setAll, mid']
end Br.L

set_option autoImplicit false
set_option linter.all false
set_option maxRecDepth 100000
set_option maxHeartbeats 8000000
set_option pp.maxSteps 400
namespace Br.L
def qc : List PV := [.tup [.int 1, .int 0, .int 0], .tup [.int 7]]
def nB (v t : Nat) : List PV := [.tup [.int (v : Nat)], .tup [.int (v : Nat), .int 1], .tup [.int (t : Nat)]]
def lB (v : Nat) : List PV := [.tup [.int (v : Nat)], .tup [.int 7]]
def dk (v : Nat) : Nat → Dk
  | 0 => ⟨.non, [], qc⟩
  | i + 1 => com (dk v i) (nB v i) [.int 3, .int (i : Nat)]
def dkE (v : Nat) : Dk := com (dk v 10) (lB v) [.int 2, .int 0, .int 0, .int 1]
def dueL (v : Nat) : List PV := [.tup [.int 1, .tup [.int (v : Nat), .int 1]], .tup [.int 2, .tup [.int 9]]]
def chk (v : Nat) : Bool := ((List.range 11).all fun i => isNon (dk v i).m && isDisk (dk v i).pv) && ((List.range 10).all fun i => isContents (.tup (nB v i)) && fitF [.int 3, .int (i : Nat)]) &&
  (PV.dle 60 (.tup (dk v 10).c) && (PV.eqv (.tup (dk v 10).c) (.tup qc) && ((dk v 10).l.length == 3))) && (isContents (.tup (lB v)) && (PV.dle 60 (.tup (dkE v).c) && (PV.eqv (.tup (dkE v).c) (.tup (lB v)) && (PV.dle 60 (.tup ((dkE v).l.drop 1)) && PV.eqv (.tup ((dkE v).l.drop 1)) (.tup (dueL v))))))
theorem chk_ok : (List.range 250).all chk = true := by decide +kernel
theorem non_of {x : PV} (h : isNon x = true) : x = .non := by cases x <;> first | rfl | cases h
def env (ns : List Int) (v : Nat) (d : Dk) (s3 s4 s5 s6 s7 : Option VV) : Env := [some (.s ns), some (.r 0), some (.p d.pv), s3, s4, s5, s6, s7, some (.p (.tup [.non, .tup [], .tup qc])), some (.p (.int (v : Nat)))]
theorem step_l (h : CH) (v i : Nat) (B fs : List PV) (d : Dk) (hm : isNon d.m = true) (hd : isDisk d.pv = true) (hB : isContents (.tup B) = true) (hf : fitF fs = true) : callN P 11 24 [.p d.pv, .p (.tup B), .p (.tup fs)] h = .ok (.p (com d B fs).pv) h := by
  obtain ⟨m, l, c⟩ := d
  have e : m = .non := non_of hm
  subst e
  exact commit_on_l 4 h l c B fs hd hB hf
def body1 : List CS := [(.asg (.nm 2) (.call 24 [(.var 2), (.tup [(.tup [(.var 9)]), (.tup [(.var 9), (.cst (.int 1))]), (.tup [(.var 4)])]), (.tup [(.cst (.int 3)), (.var 4)])]))]
theorem loop1_ok (ns : List Int) (v : Nat) (h : CH) (s3 s5 s6 s7 : Option VV) (h1 : ∀ i, i ≤ 10 → isNon (dk v i).m = true ∧ isDisk (dk v i).pv = true) (h2 : ∀ i, i < 10 → isContents (.tup (nB v i)) = true ∧ fitF [.int 3, .int (i : Nat)] = true) :
    ∀ (n i : Nat) (s4 : Option VV), i + n = 10 → ∃ t4, forLoop none (fun x ρ1 h2 => match putG (.nm 4) x ρ1 with
      | none => .err
      | some ρ2 => evB P.G (callN P 11) P.W body1 ρ2 h2) ((List.range' i n).map fun k => PV.int (k : Nat)) (env ns v (dk v i) s3 s4 s5 s6 s7) h = .ok (.nx (env ns v (dk v 10) s3 t4 s5 s6 s7)) h
  | 0, i, s4, e => ⟨s4, by
    have : i = 10 := by omega
    subst this
    rfl⟩
  | n + 1, i, s4, e => by
    obtain ⟨a1, a2⟩ := h1 i (by omega)
    obtain ⟨a3, a4⟩ := h2 i (by omega)
    have e1 := step_l h v i (nB v i) [.int 3, .int (i : Nat)] (dk v i) a1 a2 a3 a4
    obtain ⟨t4, e2⟩ := loop1_ok ns v h s3 s5 s6 s7 h1 h2 n (i + 1) (some (.p (.int (i : Nat)))) (by omega)
    refine ⟨t4, ?_⟩
    have st : ∀ (F : PV → Env → CH → Res Fl) (x : PV) (xs : List PV) (ρ : Env), forLoop none F (x :: xs) ρ h = (F x ρ h).bind fun fl h1 => (match fl with
      | .nx ρ1 => forLoop none F xs ρ1 h1
      | .ct ρ1 => forLoop none F xs ρ1 h1
      | .bk ρ1 => .ok (.nx ρ1) h1
      | .rt v => .ok (.rt v) h1) := fun _ _ _ _ => rfl
    rw [List.range'_succ, List.map_cons, st]
    have body : (match putG (.nm 4) (.int (i : Nat)) (env ns v (dk v i) s3 s4 s5 s6 s7) with
      | none => (.err : Res Fl)
      | some ρ2 => evB P.G (callN P 11) P.W body1 ρ2 h) = .ok (.nx (env ns v (dk v (i + 1)) s3 (some (.p (.int (i : Nat)))) s5 s6 s7)) h := by
      have e1' : callN P 11 24 [.p (dk v i).pv, .p (.tup [.tup [.int (v : Nat)], .tup [.int (v : Nat), .int 1], .tup [.int (i : Nat)]]), .p (.tup [.int 3, .int (i : Nat)])] h = .ok (.p (dk v (i + 1)).pv) h := e1
      simp [env, body1, e1']
    rw [body]
    exact e2
theorem loopS (ns : List Int) (v : Nat) (h : CH) (s3 s4 s5 s6 s7 : Option VV) (h1 : ∀ i, i ≤ 10 → isNon (dk v i).m = true ∧ isDisk (dk v i).pv = true) (h2 : ∀ i, i < 10 → isContents (.tup (nB v i)) = true ∧ fitF [.int 3, .int (i : Nat)] = true) :
    ∃ t4, evS P.G (callN P 11) P.W loop1 (env ns v (dk v 0) s3 s4 s5 s6 s7) h = .ok (.nx (env ns v (dk v 10) s3 t4 s5 s6 s7)) h := by
  obtain ⟨t4, e⟩ := loop1_ok ns v h s3 s5 s6 s7 h1 h2 10 0 s4 rfl
  refine ⟨t4, ?_⟩
  have e0 : evS P.G (callN P 11) P.W (.for_ (.nm 4) (.rng [.cst (.int ((10 : Nat) : Int))]) body1) (env ns v (dk v 0) s3 s4 s5 s6 s7) h = .ok (.nx (env ns v (dk v 10) s3 t4 s5 s6 s7)) h := by
    rw [for_eq (rng_eq rfl (by decide)), rng_nat, List.range_eq_range']
    exact e
  exact e0
theorem eqP_of {x y : PV} {b : Bool} (h : x.dle 60 = true) (e : x.eqv y = b) : eqP x y = some b := by
  unfold eqP deepC
  rw [h, e]; rfl
/-- what stands behind the last loop -/
theorem endS (ns : List Int) (v : Nat) (hv : v < 250) (h : CH) (s3 t4 s5 s6 s7 : Option VV) : evB P.G (callN P 11) P.W (c36.body.drop 7) (env ns v (dk v 10) s3 t4 s5 s6 s7) h = .ok (.rt (.p (.bl true))) h := by
  have c := List.all_eq_true.mp chk_ok v (List.mem_range.mpr hv)
  unfold chk at c
  simp only [Bool.and_eq_true, beq_iff_eq, List.all_eq_true] at c
  obtain ⟨⟨⟨a1, a2⟩, a3, a4, a5⟩, a6, a7, a8, a9, a10⟩ := c
  obtain ⟨b1, b2⟩ := a1 10 (by simp)
  have e1 := step_l h v 0 (lB v) [.int 2, .int 0, .int 0, .int 1] (dk v 10) b1 b2 a6 rfl
  have e1' : callN P 11 24 [.p (.tup [(dk v 10).m, .tup (dk v 10).l, .tup (dk v 10).c]), .p (.tup [.tup [.int (v : Nat)], .tup [.int 7]]), .p (.tup [.int 2, .int 0, .int 0, .int 1])] h = .ok (.p (.tup [(dkE v).m, .tup (dkE v).l, .tup (dkE v).c])) h := e1
  have q1 := eqP_of (y := .tup qc) a3 a4
  have q2 := eqP_of (y := .tup (lB v)) a7 a8
  have q3 := eqP_of (y := .tup (dueL v)) a9 a10
  have cf : cutL (dkE v).l (some 1) none = (dkE v).l.drop 1 := cut_from _ 1
  generalize dkE v = E at *
  generalize dk v 10 = D at *
  have hD : D.pv = .tup [D.m, .tup D.l, .tup D.c] := rfl
  simp only [qc, lB, dueL] at q1 q2 q3
  simp [c36, env, hD, idxW, idxP, atI, ixN, qc, cmpW, cmpD, cmpP, q1, biW, lookAll, biP, lenP, a5, eqP_int, e1', q2, slcW, slcP, bound, cf]
  simp at q3
  simp [q3]
theorem tailS (L : CS) (tl : List CS) (ns : List Int) (v : Nat) (a b a1 b1 : Int) (s2 s3 s4 s5 s6 s7 : Option VV) (e1 : callN P 11 26 [.r 0, .p (.int 250)] [Cup a b] = .ok (.p (.int (v : Nat))) [Cup a1 b1]) (ρ' : Env) (r : Res Fl)
    (hL : evS P.G (callN P 11) P.W L (env ns v (dk v 0) s3 s4 s5 s6 s7) [Cup a1 b1] = .ok (.nx ρ') [Cup a1 b1]) (hT : evB P.G (callN P 11) P.W tl ρ' [Cup a1 b1] = r) :
    evB P.G (callN P 11) P.W (.asg (.nm 8) (.idx (.call 35 []) (.cst (.int 0))) :: .par [2, 9] [(.var 8), (.call 26 [(.var 1), (.cst (.int 250))])] :: L :: tl) [some (.s ns), some (.r 0), s2, s3, s4, s5, s6, s7, none, none] [Cup a b] = r := by
  have e2 : callN P 11 35 [] [Cup a b] = .ok (.p (.tup [.tup [.non, .tup [], .tup qc], .tup [.int 2, .tup [.tup [.int 1, .tup [.int 8, .int 9]], .tup [.int 3, .tup [.int 5]], .tup [.int 0, .tup [.int 4]]], .tup [.tup [.int 1, .int 0, .int 0], .tup [.int 8, .int 9]]]])) [Cup a b] := by kernel_rfl
  simp only [env, dk, Dk.pv] at hL
  simp [e2, idxW, idxP, atI, ixN, e1, setAll, hL, hT]
theorem law_true : Law P 12 36 := by
  intro ns hn
  obtain ⟨a0, b0, h0, e0⟩ := cup_ok (P := P) (n := 10) (f := 25) rfl ns hn
  obtain ⟨_, a1, b1, h1, ⟨B, rfl, q1, q2, q3⟩, e1⟩ := contents_l 7 3 (by decide) (by decide) a0 b0 [] h0
  obtain ⟨_, a2, b2, h2, ⟨r, rfl, r0, r8⟩, e2⟩ := roll_ok (P := P) (n := 10) (fr := 26) rfl (m := 8) (by decide) (by decide) a1 b1 [] h1
  obtain ⟨k, rfl⟩ := Int.eq_ofNat_of_zero_le r0
  have D0 : DI 0 [] B B := ⟨disk_of (by simp) (by simp) rfl q1 (by omega) q3, q1, by omega, q3, turned_self B⟩
  have hi : evI P.G (callN P 11) (.rng [(.bin .add (.cst (.int 3)) (.call 26 [(.var 1), (.cst (.int 8))]))]) [some (.s ns), some (.r 0), some (.p (.tup [.non, .tup [], .tup B])), some (.p (.tup B)), none, none, none, none, none, none] [Cup a1 b1] = .ok (none, rngL 0 (3 + (k : Nat))) [Cup a2 b2] := by
    refine rng_eq ?_ (by omega)
    simp [e2, binW, binP]
  have xl : (rngL 0 (3 + (k : Int))).length = 3 + k := by rw [rng_len]; omega
  obtain ⟨ρ1, a3, b3, ⟨l, c, B0, s4, s5, s6, s7, rfl, _⟩, h3, e3⟩ := for_genN (G := P.G) (k := callN P 11) (W := P.W) (t := []) (tg := .nm 4) (b := body0) (E := E0 ns) hi h2 ⟨_, _, _, _, _, _, _, rfl, D0⟩ fun j x _ ρ a b hj hE hc => outer ns j x ρ a b (by rw [xl] at hj; omega) hE hc
  obtain ⟨_, a4, b4, h4, ⟨r, rfl, v0, v1⟩, e4⟩ := roll_ok (P := P) (n := 10) (fr := 26) rfl (m := 250) (by decide) (by decide) a3 b3 [] h3
  obtain ⟨v, rfl⟩ := Int.eq_ofNat_of_zero_le v0
  have hv : v < 250 := by omega
  have ck := List.all_eq_true.mp chk_ok v (List.mem_range.mpr hv)
  unfold chk at ck
  simp only [Bool.and_eq_true, beq_iff_eq, List.all_eq_true] at ck
  obtain ⟨⟨⟨c1, c2⟩, _⟩, _⟩ := ck
  obtain ⟨t4, e5⟩ := loopS ns v [Cup a4 b4] (some (.p (.tup B0))) s4 s5 s6 s7 (fun i hi => c1 i (List.mem_range.mpr (by omega))) (fun i hi => c2 i (List.mem_range.mpr hi))
  have e6 := endS ns v hv [Cup a4 b4] (some (.p (.tup B0))) t4 s5 s6 s7
  have e7 := tailS loop1 (c36.body.drop 7) ns v a3 b3 a4 b4 (some (.p (.tup [.non, .tup l, .tup c]))) (some (.p (.tup B0))) s4 s5 s6 s7 e4 _ _ e5 e6
  have s2 : evS P.G (callN P 11) P.W (.asg (.nm 2) (.tup [(.cst .non), (.tup []), (.call 29 [(.var 1), (.cst (.int ((3 : Nat) : Int)))])])) [some (.s ns), some (.r 0), none, none, none, none, none, none, none, none] [Cup a0 b0] = .ok (.nx [some (.s ns), some (.r 0), some (.p (.tup [.non, .tup [], .tup B])), none, none, none, none, none, none, none]) [Cup a1 b1] := by
    simp only [es_asg, ev_tup, evs_cons, evs_nil, ev_cst, ev_call, ev_var, ok_bind]
    have e1p : callN P 11 29 [.r 0, .p (.int 3)] [Cup a0 b0] = .ok (.p (.tup B)) [Cup a1 b1] := e1
    simp [e1p]
  have rest : evB P.G (callN P 11) P.W (.asg (.nm 3) (.idx (.var 2) (.cst (.int 2))) :: loop0 :: .asg (.nm 8) (.idx (.call 35 []) (.cst (.int 0))) :: .par [2, 9] [(.var 8), (.call 26 [(.var 1), (.cst (.int 250))])] :: loop1 :: c36.body.drop 7) [some (.s ns), some (.r 0), some (.p (.tup [.non, .tup [], .tup B])), none, none, none, none, none, none, none] [Cup a1 b1] = .ok (.rt (.p (.bl true))) [Cup a4 b4] := by
    generalize hL : loop0 = L
    have e3' : evS P.G (callN P 11) P.W L [some (.s ns), some (.r 0), some (.p (.tup [.non, .tup [], .tup B])), some (.p (.tup B)), none, none, none, none, none, none] [Cup a1 b1] = .ok (.nx [some (.s ns), some (.r 0), some (.p (.tup [.non, .tup l, .tup c])), some (.p (.tup B0)), s4, s5, s6, s7, none, none]) [Cup a3 b3] := by rw [← hL]; exact e3
    generalize (CS.asg (.nm 8) (.idx (.call 35 []) (.cst (.int 0))) :: .par [2, 9] [(.var 8), (.call 26 [(.var 1), (.cst (.int 250))])] :: loop1 :: c36.body.drop 7) = T at e7
    clear hL
    simp [idxW, idxP, atI, ixN, e3', e7]
  exact run_law (P := P) (n := 11) (f := 36) (cf := c36) rfl split_ok rfl rfl (asg_call (i := 1) (g := 0) ((call_var (i := 0) rfl).trans e0) (by simp [startE, c36])) s2 rest
end Br.L

set_option autoImplicit false
set_option linter.all false
set_option maxRecDepth 100000
set_option maxHeartbeats 0
namespace Br.L
open PySem PySem.Spec PyProof.Rows L2
def topS (i : Nat) : Stmt := PySem.Challenge.pw_branchdesk_k50_whole_series_of_commits.main.body.getD i (.Pass ⟨0, 0, 0, 0⟩)
def T : Tab := { fns := [(("is_whole" : Str), (0 : Nat)), (("is_tuple_of" : Str), (1 : Nat)), (("fits_content" : Str), (2 : Nat)), (("fits_contents" : Str), (3 : Nat)), (("fits_slot" : Str), (4 : Nat)), (("fits_mark" : Str), (5 : Nat)), (("fits_disk" : Str), (6 : Nat)), (("with_item" : Str), (7 : Nat)), (("written_to" : Str), (8 : Nat)), (("all_written" : Str), (9 : Nat)), (("content_at" : Str), (10 : Nat)), (("turned_in" : Str), (11 : Nat)), (("writes_for" : Str), (12 : Nat)), (("rising_for" : Str), (13 : Nat)), (("risen" : Str), (14 : Nat)), (("committed_on" : Str), (15 : Nat)), (("fits_falls" : Str), (16 : Nat)), (("need_disk" : Str), (17 : Nat)), (("need_rest" : Str), (18 : Nat)), (("need_contents" : Str), (19 : Nat)), (("need_falls" : Str), (20 : Nat)), (("is_disk" : Str), (21 : Nat)), (("commit_writes" : Str), (22 : Nat)), (("come_up" : Str), (23 : Nat)), (("commit_on" : Str), (24 : Nat)), (("_law_cup" : Str), (25 : Nat)), (("_law_roll" : Str), (26 : Nat)), (("_law_some" : Str), (27 : Nat)), (("_law_content" : Str), (28 : Nat)), (("_law_contents" : Str), (29 : Nat)), (("_law_near_contents" : Str), (30 : Nat)), (("_law_at" : Str), (31 : Nat)), (("_law_alike_blocks" : Str), (32 : Nat)), (("_law_commit" : Str), (33 : Nat)), (("_law_falls" : Str), (34 : Nat)), (("_law_two_disks" : Str), (35 : Nat)), (("law" : Str), (36 : Nat))], glo := [(("OCTETS" : Str), (0 : Nat)), (("BLOCKS" : Str), (1 : Nat)), (("SLOTS" : Str), (2 : Nat)), (("FALLS" : Str), (3 : Nat)), (("FALL" : Str), (4 : Nat))], thaw := [(⟨106, 11, 106, 94⟩ : Pos), (⟨129, 27, 129, 29⟩ : Pos), (⟨57, 12, 57, 89⟩ : Pos)], frz := [] }
def d0 : Def := ⟨topS 6, ("is_whole" : Str), [("value" : Str), ("low" : Str), ("high" : Str)], [("value" : Str), ("low" : Str), ("high" : Str)]⟩
theorem o0 : DefOk T P 0 d0 := ⟨⟨rfl, rfl, rfl, by decide +kernel, rfl, by decide +kernel, by decide +kernel⟩, (fun _ _ _ _ _ _ us hl => match us, hl with | [_, _, _], _ => rfl), ⟨c0, 60, rfl, rfl, rfl, by kernel_rfl⟩⟩
def d1 : Def := ⟨topS 7, ("is_tuple_of" : Str), [("value" : Str), ("low" : Str), ("high" : Str)], [("value" : Str), ("low" : Str), ("high" : Str)]⟩
theorem o1 : DefOk T P 1 d1 := ⟨⟨rfl, rfl, rfl, by decide +kernel, rfl, by decide +kernel, by decide +kernel⟩, (fun _ _ _ _ _ _ us hl => match us, hl with | [_, _, _], _ => rfl), ⟨c1, 60, rfl, rfl, rfl, by kernel_rfl⟩⟩
def d2 : Def := ⟨topS 14, ("fits_content" : Str), [("value" : Str)], [("value" : Str), ("one" : Str)]⟩
theorem o2 : DefOk T P 2 d2 := ⟨⟨rfl, rfl, rfl, by decide +kernel, rfl, by decide +kernel, by decide +kernel⟩, (fun _ _ _ _ _ _ us hl => match us, hl with | [_], _ => rfl), ⟨c2, 60, rfl, rfl, rfl, by kernel_rfl⟩⟩
def d3 : Def := ⟨topS 15, ("fits_contents" : Str), [("value" : Str)], [("value" : Str), ("one" : Str)]⟩
theorem o3 : DefOk T P 3 d3 := ⟨⟨rfl, rfl, rfl, by decide +kernel, rfl, by decide +kernel, by decide +kernel⟩, (fun _ _ _ _ _ _ us hl => match us, hl with | [_], _ => rfl), ⟨c3, 60, rfl, rfl, rfl, by kernel_rfl⟩⟩
def d4 : Def := ⟨topS 16, ("fits_slot" : Str), [("value" : Str)], [("value" : Str)]⟩
theorem o4 : DefOk T P 4 d4 := ⟨⟨rfl, rfl, rfl, by decide +kernel, rfl, by decide +kernel, by decide +kernel⟩, (fun _ _ _ _ _ _ us hl => match us, hl with | [_], _ => rfl), ⟨c4, 60, rfl, rfl, rfl, by kernel_rfl⟩⟩
def d5 : Def := ⟨topS 17, ("fits_mark" : Str), [("log" : Str), ("value" : Str)], [("log" : Str), ("value" : Str)]⟩
theorem o5 : DefOk T P 5 d5 := ⟨⟨rfl, rfl, rfl, by decide +kernel, rfl, by decide +kernel, by decide +kernel⟩, (fun _ _ _ _ _ _ us hl => match us, hl with | [_, _], _ => rfl), ⟨c5, 60, rfl, rfl, rfl, by kernel_rfl⟩⟩
def d6 : Def := ⟨topS 18, ("fits_disk" : Str), [("value" : Str)], [("value" : Str), ("one" : Str)]⟩
theorem o6 : DefOk T P 6 d6 := ⟨⟨rfl, rfl, rfl, by decide +kernel, rfl, by decide +kernel, by decide +kernel⟩, (fun _ _ _ _ _ _ us hl => match us, hl with | [_], _ => rfl), ⟨c6, 60, rfl, rfl, rfl, by kernel_rfl⟩⟩
def d7 : Def := ⟨topS 19, ("with_item" : Str), [("items" : Str), ("at" : Str), ("item" : Str)], [("items" : Str), ("at" : Str), ("item" : Str)]⟩
theorem o7 : DefOk T P 7 d7 := ⟨⟨rfl, rfl, rfl, by decide +kernel, rfl, by decide +kernel, by decide +kernel⟩, (fun _ _ _ _ _ _ us hl => match us, hl with | [_, _, _], _ => rfl), ⟨c7, 60, rfl, rfl, rfl, by kernel_rfl⟩⟩
def d8 : Def := ⟨topS 20, ("written_to" : Str), [("disk" : Str), ("write" : Str)], [("disk" : Str), ("write" : Str), ("mark" : Str), ("log" : Str), ("blocks" : Str)]⟩
theorem o8 : DefOk T P 8 d8 := ⟨⟨rfl, rfl, rfl, by decide +kernel, rfl, by decide +kernel, by decide +kernel⟩, (fun _ _ _ _ _ _ us hl => match us, hl with | [_, _], _ => rfl), ⟨c8, 60, rfl, rfl, rfl, by kernel_rfl⟩⟩
def d9 : Def := ⟨topS 21, ("all_written" : Str), [("disk" : Str), ("writes" : Str)], [("disk" : Str), ("writes" : Str), ("write" : Str)]⟩
theorem o9 : DefOk T P 9 d9 := ⟨⟨rfl, rfl, rfl, by decide +kernel, rfl, by decide +kernel, by decide +kernel⟩, (fun _ _ _ _ _ _ us hl => match us, hl with | [_, _], _ => rfl), ⟨c9, 60, rfl, rfl, rfl, by kernel_rfl⟩⟩
def d10 : Def := ⟨topS 22, ("content_at" : Str), [("blocks" : Str), ("number" : Str)], [("blocks" : Str), ("number" : Str)]⟩
theorem o10 : DefOk T P 10 d10 := ⟨⟨rfl, rfl, rfl, by decide +kernel, rfl, by decide +kernel, by decide +kernel⟩, (fun _ _ _ _ _ _ us hl => match us, hl with | [_, _], _ => rfl), ⟨c10, 60, rfl, rfl, rfl, by kernel_rfl⟩⟩
def d11 : Def := ⟨topS 23, ("turned_in" : Str), [("old" : Str), ("new" : Str)], [("old" : Str), ("new" : Str), ("numbers" : Str), ("at" : Str)]⟩
theorem o11 : DefOk T P 11 d11 := ⟨⟨rfl, rfl, rfl, by decide +kernel, rfl, by decide +kernel, by decide +kernel⟩, (fun _ _ _ _ _ _ us hl => match us, hl with | [_, _], _ => rfl), ⟨c11, 60, rfl, rfl, rfl, by kernel_rfl⟩⟩
def d12 : Def := ⟨topS 24, ("writes_for" : Str), [("disk" : Str), ("contents" : Str)], [("disk" : Str), ("contents" : Str), ("turned" : Str), ("found" : Str), ("at" : Str), ("number" : Str), ("content" : Str)]⟩
theorem o12 : DefOk T P 12 d12 := ⟨⟨rfl, rfl, rfl, by decide +kernel, rfl, by decide +kernel, by decide +kernel⟩, (fun _ _ _ _ _ _ us hl => match us, hl with | [_, _], _ => rfl), ⟨c12, 60, rfl, rfl, rfl, by kernel_rfl⟩⟩
def d13 : Def := ⟨topS 25, ("rising_for" : Str), [("disk" : Str)], [("disk" : Str), ("number" : Str), ("content" : Str)]⟩
theorem o13 : DefOk T P 13 d13 := ⟨⟨rfl, rfl, rfl, by decide +kernel, rfl, by decide +kernel, by decide +kernel⟩, (fun _ _ _ _ _ _ us hl => match us, hl with | [_], _ => rfl), ⟨c13, 60, rfl, rfl, rfl, by kernel_rfl⟩⟩
def d14 : Def := ⟨topS 26, ("risen" : Str), [("disk" : Str), ("falls" : Str)], [("disk" : Str), ("falls" : Str), ("fall" : Str)]⟩
theorem o14 : DefOk T P 14 d14 := ⟨⟨rfl, rfl, rfl, by decide +kernel, rfl, by decide +kernel, by decide +kernel⟩, (fun _ _ _ _ _ _ us hl => match us, hl with | [_, _], _ => rfl), ⟨c14, 60, rfl, rfl, rfl, by kernel_rfl⟩⟩
def d15 : Def := ⟨topS 27, ("committed_on" : Str), [("disk" : Str), ("contents" : Str), ("falls" : Str)], [("disk" : Str), ("contents" : Str), ("falls" : Str), ("writes" : Str)]⟩
theorem o15 : DefOk T P 15 d15 := ⟨⟨rfl, rfl, rfl, by decide +kernel, rfl, by decide +kernel, by decide +kernel⟩, (fun _ _ _ _ _ _ us hl => match us, hl with | [_, _, _], _ => rfl), ⟨c15, 60, rfl, rfl, rfl, by kernel_rfl⟩⟩
def d16 : Def := ⟨topS 28, ("fits_falls" : Str), [("value" : Str)], [("value" : Str), ("one" : Str)]⟩
theorem o16 : DefOk T P 16 d16 := ⟨⟨rfl, rfl, rfl, by decide +kernel, rfl, by decide +kernel, by decide +kernel⟩, (fun _ _ _ _ _ _ us hl => match us, hl with | [_], _ => rfl), ⟨c16, 60, rfl, rfl, rfl, by kernel_rfl⟩⟩
def d17 : Def := ⟨topS 29, ("need_disk" : Str), [("value" : Str)], [("value" : Str)]⟩
theorem o17 : DefOk T P 17 d17 := ⟨⟨rfl, rfl, rfl, by decide +kernel, rfl, by decide +kernel, by decide +kernel⟩, (fun _ _ _ _ _ _ us hl => match us, hl with | [_], _ => rfl), ⟨c17, 60, rfl, rfl, rfl, by kernel_rfl⟩⟩
def d18 : Def := ⟨topS 30, ("need_rest" : Str), [("value" : Str)], [("value" : Str)]⟩
theorem o18 : DefOk T P 18 d18 := ⟨⟨rfl, rfl, rfl, by decide +kernel, rfl, by decide +kernel, by decide +kernel⟩, (fun _ _ _ _ _ _ us hl => match us, hl with | [_], _ => rfl), ⟨c18, 60, rfl, rfl, rfl, by kernel_rfl⟩⟩
def d19 : Def := ⟨topS 31, ("need_contents" : Str), [("value" : Str)], [("value" : Str)]⟩
theorem o19 : DefOk T P 19 d19 := ⟨⟨rfl, rfl, rfl, by decide +kernel, rfl, by decide +kernel, by decide +kernel⟩, (fun _ _ _ _ _ _ us hl => match us, hl with | [_], _ => rfl), ⟨c19, 60, rfl, rfl, rfl, by kernel_rfl⟩⟩
def d20 : Def := ⟨topS 32, ("need_falls" : Str), [("value" : Str)], [("value" : Str)]⟩
theorem o20 : DefOk T P 20 d20 := ⟨⟨rfl, rfl, rfl, by decide +kernel, rfl, by decide +kernel, by decide +kernel⟩, (fun _ _ _ _ _ _ us hl => match us, hl with | [_], _ => rfl), ⟨c20, 60, rfl, rfl, rfl, by kernel_rfl⟩⟩
def d21 : Def := ⟨topS 33, ("is_disk" : Str), [("value" : Str)], [("value" : Str)]⟩
theorem o21 : DefOk T P 21 d21 := ⟨⟨rfl, rfl, rfl, by decide +kernel, rfl, by decide +kernel, by decide +kernel⟩, (fun _ _ _ _ _ _ us hl => match us, hl with | [_], _ => rfl), ⟨c21, 60, rfl, rfl, rfl, by kernel_rfl⟩⟩
def d22 : Def := ⟨topS 34, ("commit_writes" : Str), [("disk" : Str), ("contents" : Str)], [("disk" : Str), ("contents" : Str)]⟩
theorem o22 : DefOk T P 22 d22 := ⟨⟨rfl, rfl, rfl, by decide +kernel, rfl, by decide +kernel, by decide +kernel⟩, (fun _ _ _ _ _ _ us hl => match us, hl with | [_, _], _ => rfl), ⟨c22, 60, rfl, rfl, rfl, by kernel_rfl⟩⟩
def d23 : Def := ⟨topS 35, ("come_up" : Str), [("disk" : Str), ("falls" : Str)], [("disk" : Str), ("falls" : Str)]⟩
theorem o23 : DefOk T P 23 d23 := ⟨⟨rfl, rfl, rfl, by decide +kernel, rfl, by decide +kernel, by decide +kernel⟩, (fun _ _ _ _ _ _ us hl => match us, hl with | [_, _], _ => rfl), ⟨c23, 60, rfl, rfl, rfl, by kernel_rfl⟩⟩
def d24 : Def := ⟨topS 36, ("commit_on" : Str), [("disk" : Str), ("contents" : Str), ("falls" : Str)], [("disk" : Str), ("contents" : Str), ("falls" : Str)]⟩
theorem o24 : DefOk T P 24 d24 := ⟨⟨rfl, rfl, rfl, by decide +kernel, rfl, by decide +kernel, by decide +kernel⟩, (fun _ _ _ _ _ _ us hl => match us, hl with | [_, _, _], _ => rfl), ⟨c24, 60, rfl, rfl, rfl, by kernel_rfl⟩⟩
def d25 : Def := ⟨topS 38, ("_law_cup" : Str), [("script" : Str)], [("script" : Str), ("cell" : Str)]⟩
theorem o25 : DefOk T P 25 d25 := ⟨⟨rfl, rfl, rfl, by decide +kernel, rfl, by decide +kernel, by decide +kernel⟩, (fun _ _ _ _ _ _ us hl => match us, hl with | [_], _ => rfl), ⟨c25, 60, rfl, rfl, rfl, by kernel_rfl⟩⟩
def d26 : Def := ⟨topS 39, ("_law_roll" : Str), [("cup" : Str), ("many" : Str)], [("cup" : Str), ("many" : Str), ("found" : Str), ("deep" : Str)]⟩
theorem o26 : DefOk T P 26 d26 := ⟨⟨rfl, rfl, rfl, by decide +kernel, rfl, by decide +kernel, by decide +kernel⟩, (fun _ _ _ _ _ _ us hl => match us, hl with | [_, _], _ => rfl), ⟨c26, 60, rfl, rfl, rfl, by kernel_rfl⟩⟩
def d27 : Def := ⟨topS 40, ("_law_some" : Str), [("cup" : Str), ("things" : Str)], [("cup" : Str), ("things" : Str)]⟩
theorem o27 : DefOk T P 27 d27 := ⟨⟨rfl, rfl, rfl, by decide +kernel, rfl, by decide +kernel, by decide +kernel⟩, (fun _ _ _ _ _ _ us hl => match us, hl with | [_, _], _ => rfl), ⟨c27, 60, rfl, rfl, rfl, by kernel_rfl⟩⟩
def d28 : Def := ⟨topS 41, ("_law_content" : Str), [("cup" : Str)], [("cup" : Str), ("turn" : Str)]⟩
theorem o28 : DefOk T P 28 d28 := ⟨⟨rfl, rfl, rfl, by decide +kernel, rfl, by decide +kernel, by decide +kernel⟩, (fun _ _ _ _ _ _ us hl => match us, hl with | [_], _ => rfl), ⟨c28, 60, rfl, rfl, rfl, by kernel_rfl⟩⟩
def d29 : Def := ⟨topS 42, ("_law_contents" : Str), [("cup" : Str), ("most" : Str)], [("cup" : Str), ("most" : Str), ("turn" : Str)]⟩
theorem o29 : DefOk T P 29 d29 := ⟨⟨rfl, rfl, rfl, by decide +kernel, rfl, by decide +kernel, by decide +kernel⟩, (fun _ _ _ _ _ _ us hl => match us, hl with | [_, _], _ => rfl), ⟨c29, 60, rfl, rfl, rfl, by kernel_rfl⟩⟩
def d30 : Def := ⟨topS 43, ("_law_near_contents" : Str), [("cup" : Str), ("contents" : Str)], [("cup" : Str), ("contents" : Str), ("found" : Str), ("one" : Str)]⟩
theorem o30 : DefOk T P 30 d30 := ⟨⟨rfl, rfl, rfl, by decide +kernel, rfl, by decide +kernel, by decide +kernel⟩, (fun _ _ _ _ _ _ us hl => match us, hl with | [_, _], _ => rfl), ⟨c30, 60, rfl, rfl, rfl, by kernel_rfl⟩⟩
def d31 : Def := ⟨topS 44, ("_law_at" : Str), [("blocks" : Str), ("number" : Str)], [("blocks" : Str), ("number" : Str)]⟩
theorem o31 : DefOk T P 31 d31 := ⟨⟨rfl, rfl, rfl, by decide +kernel, rfl, by decide +kernel, by decide +kernel⟩, (fun _ _ _ _ _ _ us hl => match us, hl with | [_, _], _ => rfl), ⟨c31, 60, rfl, rfl, rfl, by kernel_rfl⟩⟩
def d32 : Def := ⟨topS 45, ("_law_alike_blocks" : Str), [("one" : Str), ("other" : Str)], [("one" : Str), ("other" : Str), ("number" : Str)]⟩
theorem o32 : DefOk T P 32 d32 := ⟨⟨rfl, rfl, rfl, by decide +kernel, rfl, by decide +kernel, by decide +kernel⟩, (fun _ _ _ _ _ _ us hl => match us, hl with | [_, _], _ => rfl), ⟨c32, 60, rfl, rfl, rfl, by kernel_rfl⟩⟩
def d33 : Def := ⟨topS 46, ("_law_commit" : Str), [("disk" : Str), ("contents" : Str)], [("disk" : Str), ("contents" : Str), ("old" : Str), ("found" : Str), ("numbers" : Str), ("at" : Str), ("number" : Str), ("more" : Str)]⟩
theorem o33 : DefOk T P 33 d33 := ⟨⟨rfl, rfl, rfl, by decide +kernel, rfl, by decide +kernel, by decide +kernel⟩, (fun _ _ _ _ _ _ us hl => match us, hl with | [_, _], _ => rfl), ⟨c33, 60, rfl, rfl, rfl, by kernel_rfl⟩⟩
def d34 : Def := ⟨topS 47, ("_law_falls" : Str), [("cup" : Str), ("most" : Str)], [("cup" : Str), ("most" : Str), ("turn" : Str)]⟩
theorem o34 : DefOk T P 34 d34 := ⟨⟨rfl, rfl, rfl, by decide +kernel, rfl, by decide +kernel, by decide +kernel⟩, (fun _ _ _ _ _ _ us hl => match us, hl with | [_, _], _ => rfl), ⟨c34, 60, rfl, rfl, rfl, by kernel_rfl⟩⟩
def d35 : Def := ⟨topS 48, ("_law_two_disks" : Str), [], []⟩
theorem o35 : DefOk T P 35 d35 := ⟨⟨rfl, rfl, rfl, by decide +kernel, rfl, by decide +kernel, by decide +kernel⟩, (fun _ _ _ _ _ _ us hl => match us, hl with | [], _ => rfl), ⟨c35, 60, rfl, rfl, rfl, by kernel_rfl⟩⟩
def d36 : Def := ⟨topS 49, ("law" : Str), [("script" : Str)], [("script" : Str), ("cup" : Str), ("disk" : Str), ("blocks" : Str), ("turn" : Str), ("contents" : Str), ("many" : Str), ("falls" : Str), ("quiet" : Str), ("value" : Str)]⟩
theorem o36 : DefOk T P 36 d36 := ⟨⟨rfl, rfl, rfl, by decide +kernel, rfl, by decide +kernel, by decide +kernel⟩, (fun _ _ _ _ _ _ us hl => match us, hl with | [_], _ => rfl), ⟨c36, 60, rfl, rfl, rfl, by kernel_rfl⟩⟩
def ds : List Def := [d0, d1, d2, d3, d4, d5, d6, d7, d8, d9, d10, d11, d12, d13, d14, d15, d16, d17, d18, d19, d20, d21, d22, d23, d24, d25, d26, d27, d28, d29, d30, d31, d32, d33, d34, d35, d36]
theorem st_ok : ∀ f d, ds[f]? = some d → DefOk T P f d
  | 0, _, h => by cases h; exact o0
  | 1, _, h => by cases h; exact o1
  | 2, _, h => by cases h; exact o2
  | 3, _, h => by cases h; exact o3
  | 4, _, h => by cases h; exact o4
  | 5, _, h => by cases h; exact o5
  | 6, _, h => by cases h; exact o6
  | 7, _, h => by cases h; exact o7
  | 8, _, h => by cases h; exact o8
  | 9, _, h => by cases h; exact o9
  | 10, _, h => by cases h; exact o10
  | 11, _, h => by cases h; exact o11
  | 12, _, h => by cases h; exact o12
  | 13, _, h => by cases h; exact o13
  | 14, _, h => by cases h; exact o14
  | 15, _, h => by cases h; exact o15
  | 16, _, h => by cases h; exact o16
  | 17, _, h => by cases h; exact o17
  | 18, _, h => by cases h; exact o18
  | 19, _, h => by cases h; exact o19
  | 20, _, h => by cases h; exact o20
  | 21, _, h => by cases h; exact o21
  | 22, _, h => by cases h; exact o22
  | 23, _, h => by cases h; exact o23
  | 24, _, h => by cases h; exact o24
  | 25, _, h => by cases h; exact o25
  | 26, _, h => by cases h; exact o26
  | 27, _, h => by cases h; exact o27
  | 28, _, h => by cases h; exact o28
  | 29, _, h => by cases h; exact o29
  | 30, _, h => by cases h; exact o30
  | 31, _, h => by cases h; exact o31
  | 32, _, h => by cases h; exact o32
  | 33, _, h => by cases h; exact o33
  | 34, _, h => by cases h; exact o34
  | 35, _, h => by cases h; exact o35
  | 36, _, h => by cases h; exact o36
  | n + 37, _, h => by cases h
theorem tab_ok : tabOk T.fns ds = true := by decide +kernel
end Br.L
open PySem PySem.W PyProof.Rows
set_option maxRecDepth 100000 in
set_option maxHeartbeats 0 in
theorem PySem.Challenge.cw_branchdesk_k50_whole_series_of_commits_holds : PySem.Challenge.rw_branchdesk_k50_whole_series_of_commits.Holds := by
  w_on; o_law; k_head; (case hw => w_witness2)
  k_fill
  refine Br.br_walk (l := PySem.Challenge.rw_branchdesk_k50_whole_series_of_commits) (k := 12) (f := 36) (T := Br.L.T) (P := Br.L.P) (D := fun j => Br.L.ds[j]?) (df := Br.L.d36) rfl rfl ⟨rfl, by decide, by decide⟩ (fun w h Y => PySem.W.kIn_of Y) ?F rfl rfl rfl Br.L.law_true
  case F =>
    intro w mg h KX G
    refine Br.ms_mk KX G Br.L.st_ok Br.L.tab_ok ?facts ?glo ?bi
    case facts =>
      refine And.intro (by refine' Br.Fact.mk ?a ?l ?c ?k; (case a => k_is); (case l => k_is); (case c => k_is); (case k => k_is)) ?_
      refine And.intro (by refine' Br.Fact.mk ?a ?l ?c ?k; (case a => k_is); (case l => k_is); (case c => k_is); (case k => k_is)) ?_
      refine And.intro (by refine' Br.Fact.mk ?a ?l ?c ?k; (case a => k_is); (case l => k_is); (case c => k_is); (case k => k_is)) ?_
      refine And.intro (by refine' Br.Fact.mk ?a ?l ?c ?k; (case a => k_is); (case l => k_is); (case c => k_is); (case k => k_is)) ?_
      refine And.intro (by refine' Br.Fact.mk ?a ?l ?c ?k; (case a => k_is); (case l => k_is); (case c => k_is); (case k => k_is)) ?_
      refine And.intro (by refine' Br.Fact.mk ?a ?l ?c ?k; (case a => k_is); (case l => k_is); (case c => k_is); (case k => k_is)) ?_
      refine And.intro (by refine' Br.Fact.mk ?a ?l ?c ?k; (case a => k_is); (case l => k_is); (case c => k_is); (case k => k_is)) ?_
      refine And.intro (by refine' Br.Fact.mk ?a ?l ?c ?k; (case a => k_is); (case l => k_is); (case c => k_is); (case k => k_is)) ?_
      refine And.intro (by refine' Br.Fact.mk ?a ?l ?c ?k; (case a => k_is); (case l => k_is); (case c => k_is); (case k => k_is)) ?_
      refine And.intro (by refine' Br.Fact.mk ?a ?l ?c ?k; (case a => k_is); (case l => k_is); (case c => k_is); (case k => k_is)) ?_
      refine And.intro (by refine' Br.Fact.mk ?a ?l ?c ?k; (case a => k_is); (case l => k_is); (case c => k_is); (case k => k_is)) ?_
      refine And.intro (by refine' Br.Fact.mk ?a ?l ?c ?k; (case a => k_is); (case l => k_is); (case c => k_is); (case k => k_is)) ?_
      refine And.intro (by refine' Br.Fact.mk ?a ?l ?c ?k; (case a => k_is); (case l => k_is); (case c => k_is); (case k => k_is)) ?_
      refine And.intro (by refine' Br.Fact.mk ?a ?l ?c ?k; (case a => k_is); (case l => k_is); (case c => k_is); (case k => k_is)) ?_
      refine And.intro (by refine' Br.Fact.mk ?a ?l ?c ?k; (case a => k_is); (case l => k_is); (case c => k_is); (case k => k_is)) ?_
      refine And.intro (by refine' Br.Fact.mk ?a ?l ?c ?k; (case a => k_is); (case l => k_is); (case c => k_is); (case k => k_is)) ?_
      refine And.intro (by refine' Br.Fact.mk ?a ?l ?c ?k; (case a => k_is); (case l => k_is); (case c => k_is); (case k => k_is)) ?_
      refine And.intro (by refine' Br.Fact.mk ?a ?l ?c ?k; (case a => k_is); (case l => k_is); (case c => k_is); (case k => k_is)) ?_
      refine And.intro (by refine' Br.Fact.mk ?a ?l ?c ?k; (case a => k_is); (case l => k_is); (case c => k_is); (case k => k_is)) ?_
      refine And.intro (by refine' Br.Fact.mk ?a ?l ?c ?k; (case a => k_is); (case l => k_is); (case c => k_is); (case k => k_is)) ?_
      refine And.intro (by refine' Br.Fact.mk ?a ?l ?c ?k; (case a => k_is); (case l => k_is); (case c => k_is); (case k => k_is)) ?_
      refine And.intro (by refine' Br.Fact.mk ?a ?l ?c ?k; (case a => k_is); (case l => k_is); (case c => k_is); (case k => k_is)) ?_
      refine And.intro (by refine' Br.Fact.mk ?a ?l ?c ?k; (case a => k_is); (case l => k_is); (case c => k_is); (case k => k_is)) ?_
      refine And.intro (by refine' Br.Fact.mk ?a ?l ?c ?k; (case a => k_is); (case l => k_is); (case c => k_is); (case k => k_is)) ?_
      refine And.intro (by refine' Br.Fact.mk ?a ?l ?c ?k; (case a => k_is); (case l => k_is); (case c => k_is); (case k => k_is)) ?_
      refine And.intro (by refine' Br.Fact.mk ?a ?l ?c ?k; (case a => k_is); (case l => k_is); (case c => k_is); (case k => k_is)) ?_
      refine And.intro (by refine' Br.Fact.mk ?a ?l ?c ?k; (case a => k_is); (case l => k_is); (case c => k_is); (case k => k_is)) ?_
      refine And.intro (by refine' Br.Fact.mk ?a ?l ?c ?k; (case a => k_is); (case l => k_is); (case c => k_is); (case k => k_is)) ?_
      refine And.intro (by refine' Br.Fact.mk ?a ?l ?c ?k; (case a => k_is); (case l => k_is); (case c => k_is); (case k => k_is)) ?_
      refine And.intro (by refine' Br.Fact.mk ?a ?l ?c ?k; (case a => k_is); (case l => k_is); (case c => k_is); (case k => k_is)) ?_
      refine And.intro (by refine' Br.Fact.mk ?a ?l ?c ?k; (case a => k_is); (case l => k_is); (case c => k_is); (case k => k_is)) ?_
      refine And.intro (by refine' Br.Fact.mk ?a ?l ?c ?k; (case a => k_is); (case l => k_is); (case c => k_is); (case k => k_is)) ?_
      refine And.intro (by refine' Br.Fact.mk ?a ?l ?c ?k; (case a => k_is); (case l => k_is); (case c => k_is); (case k => k_is)) ?_
      refine And.intro (by refine' Br.Fact.mk ?a ?l ?c ?k; (case a => k_is); (case l => k_is); (case c => k_is); (case k => k_is)) ?_
      refine And.intro (by refine' Br.Fact.mk ?a ?l ?c ?k; (case a => k_is); (case l => k_is); (case c => k_is); (case k => k_is)) ?_
      refine And.intro (by refine' Br.Fact.mk ?a ?l ?c ?k; (case a => k_is); (case l => k_is); (case c => k_is); (case k => k_is)) ?_
      refine And.intro (by refine' Br.Fact.mk ?a ?l ?c ?k; (case a => k_is); (case l => k_is); (case c => k_is); (case k => k_is)) ?_
      exact trivial
    case glo =>
      refine And.intro (fun v e => by cases e; refine' Br.gf_int KX G ?a; (case a => k_is)) ?_
      refine And.intro (fun v e => by cases e; refine' Br.gf_int KX G ?a; (case a => k_is)) ?_
      refine And.intro (fun v e => by cases e; refine' Br.gf_int KX G ?a; (case a => k_is)) ?_
      refine And.intro (fun v e => by cases e; refine' Br.gf_int KX G ?a; (case a => k_is)) ?_
      refine And.intro (fun v e => by cases e; refine' Br.gf_int KX G ?a; (case a => k_is)) ?_
      exact trivial
    case bi =>
      refine And.intro (by k_is) ?_
      refine And.intro (by k_is) ?_
      refine And.intro (by k_is) ?_
      refine And.intro (by k_is) ?_
      refine And.intro (by k_is) ?_
      refine And.intro (by k_is) ?_
      refine And.intro (by k_is) ?_
      refine And.intro (by k_is) ?_
      refine And.intro (by k_is) ?_
      refine And.intro (by k_is) ?_
      refine And.intro (by k_is) ?_
      refine And.intro (by k_is) ?_
      refine And.intro (by k_is) ?_
      refine And.intro (by k_is) ?_
      refine And.intro (by k_is) ?_
      refine And.intro (by k_is) ?_
      refine And.intro (by k_is) ?_
      refine And.intro (by k_is) ?_
      refine And.intro (by k_is) ?_
      refine And.intro (by k_is) ?_
      exact trivial
