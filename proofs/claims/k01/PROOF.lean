import PyProof.Rows.All
import Wide.All
import OpenK.AllK
import Wide.FinOn
import KE.KStateDown
import HandS.WordsExc
import HandS.Head0
import HandS.Head1
import HandS.Head2
import HandS.HeadEnd
import HandS.HeadHook1
import HandS.HeadHook2
import HandS.HeadHook4
import HandS.ForMost
import HandS.ForExc
import HandS.TupAny
import HandS.TupMul
import HandS.IsInst
import HandS.Deep
import HandS.Conv
import HandS.Zip
import HandS.Wide
import HandS.Defaults
import HandS.Style
import PyProof.Rows.IntBool
import KE.GoesNew
import HandS.Flt
import HandS.Flow
import KE.KDictZip
import HandS.Dict
import HandS.List
import HandS.Codes
import HandS.Text
import HandS.TryMany
import HandS.ExcOwn
import PyProof.ExcBaseAll.ValueError
import PySem.Challenge.RW_anyrinses_k01_ways_and_dirt_recognized
set_option Elab.async false
set_option linter.all false
set_option maxRecDepth 100000
set_option maxHeartbeats 0
/-! RzCore -/
set_option linter.all false
namespace Rz

/-- data of the pure evaluator -/
inductive D where
  | non
  | bl (b : Bool)
  | int (i : Int)
  | str (s : List Nat)
  | tup (ds : List D)
  | lst (ds : List D)
  | dic (ks vs : List D)
  | fn (f : Nat)
  | mref (n : Nat)
  | scr (ds : List D)

abbrev Gs := List (List D)

/-- what comes out: a value, an exception (its class, what it bears), or no word -/
inductive R (α : Type) where
  | ok (a : α) (g : Gs)
  | exc (c : Nat) (p : D) (g : Gs)
  | no

def R.bind {α β : Type} : R α → (α → Gs → R β) → R β
  | .ok a g, f => f a g
  | .exc c p g, _ => .exc c p g
  | .no, _ => .no
def R.of {α : Type} (o : Option α) (g : Gs) : R α := match o with
  | some a => .ok a g
  | none => .no

inductive Op where
  | add | sub | mul | fdiv | mod | pow | eq | ne | lt | le | gt | ge | isin | notin | is_ | isnt
inductive Bi where
  | len | int | abs | min2 | min3 | max2 | max1 | sum | tuple | list | lrange | lzip | dzip | sorted | any | all | str | bool
  | isint | isbool | isstr | istup | islst
  | get | join | split | index | upper | tnot
inductive ItK where
  | seq | rng | rng2 | zip | enum
inductive SlK where
  | lo | hi | both | rev
inductive Tg where
  | nm (i : Nat)
  | tp (ts : List Tg)

inductive Ex where
  | lit (d : D)
  | var (i : Nat)
  | glo (x : List Nat) (d : D)
  | fnv (f : Nat)
  | tup (es : List Ex)
  | lst (es : List Ex)
  | dic (ks vs : List Ex)
  | op (o : Op) (a b : Ex)
  | neg (a : Ex)
  | not (a : Ex)
  | and_ (a b : Ex)
  | or_ (a b : Ex)
  | chain (o p : Op) (a b c : Ex)
  | chain3 (o p q : Op) (a b c d : Ex)
  | ite (c a b : Ex)
  | call (f : Nat) (es : List Ex)
  | bi (b : Bi) (es : List Ex)
  | meth (b : Bi) (a : Ex) (es : List Ex)
  | ix (a i : Ex)
  | sl (k : SlK) (a : Ex) (es : List Ex)
  | comp (e : Ex) (t : Tg) (k : ItK) (es : List Ex) (c : List Ex)
  | fz (is : List Nat) (e : Ex)
  | line (i : Nat)

inductive St where
  | frz (is : List Nat)
  | asg (i : Nat) (e : Ex)
  | own (i : Nat) (e : Ex)
  | cel (i : Nat) (e : Ex)
  | asg2 (i j : Nat) (e : Ex)
  | par (ts : List (Bool × Nat)) (es : List Ex)
  | unp (t : Tg) (e : Ex)
  | app (i : Nat) (e : Ex)
  | setx (i : Nat) (j e : Ex)
  | ex (e : Ex)
  | ite (c : Ex) (a b : List St)
  | for_ (t : Tg) (k : ItK) (es : List Ex) (body : List St)
  | whl (c : Ex) (body : List St)
  | ret (e : Ex)
  | retN
  | rai (c : Nat) (e : List Ex)
  | pass
  | brk
  | cnt
  | try_ (body : List St) (hs : List (Nat × Option Nat × List St))

/-! ### data -/
mutual
def D.eqv : D → D → Bool
  | .non, .non => true
  | .bl a, .bl b => a == b
  | .bl a, .int j => (if a then 1 else 0) == j
  | .int i, .bl b => i == (if b then 1 else 0)
  | .int i, .int j => i == j
  | .str x, .str y => x == y
  | .lst xs, .lst ys => D.eqvs xs ys
  | .tup xs, .tup ys => D.eqvs xs ys
  | _, _ => false
def D.eqvs : List D → List D → Bool
  | [], [] => true
  | x :: xs, y :: ys => D.eqv x y && D.eqvs xs ys
  | _, _ => false
end
mutual
/-- data that == may look at: at most so deep, plain texts -/
def D.shp : Nat → D → Bool
  | _, .non => true
  | _, .bl _ => true
  | _, .int _ => true
  | _, .str s => s.all fun c => Nat.blt c 55296
  | 0, .tup _ => false
  | 0, .lst _ => false
  | n + 1, .tup ds => D.shps n ds
  | n + 1, .lst ds => D.shps n ds
  | _, .dic _ _ => false
  | _, .fn _ => false
  | _, .mref _ => false
  | _, .scr _ => false
def D.shps : Nat → List D → Bool
  | _, [] => true
  | n, d :: ds => D.shp n d && D.shps n ds
end
mutual
/-- no list, no dict within -/
def D.noL : D → Bool
  | .lst _ => false
  | .dic _ _ => false
  | .scr _ => false
  | .tup ds => D.noLs ds
  | _ => true
def D.noLs : List D → Bool
  | [] => true
  | d :: ds => D.noL d && D.noLs ds
end

def lineN : Nat := 1000000
def mulOk (i j : Int) : Bool := Nat.blt (i.natAbs.log2 + j.natAbs.log2) 100000000
def divOk (i j : Int) : Bool := !(j == 0) && (Nat.blt j.natAbs.log2 9000 || Nat.blt i.natAbs.log2 (j.natAbs.log2 + 4400))
def powOk (i j : Int) : Bool := decide (0 ≤ j) && decide (j ≤ 1000) && Nat.blt i.natAbs 18446744073709551616
def shortI (k : Int) : Bool := decide (-4611686018427387904 ≤ k) && decide (k < 4611686018427387904)

/-- the place that an index of any sign means -/
def ixN (n : Nat) (i : Int) : Option Nat :=
  if 0 ≤ i then (if i < n then some i.toNat else none) else if -(n : Int) ≤ i then some (i + n).toNat else none
def atI {α : Type} (xs : List α) (i : Int) : Option α := (ixN xs.length i).bind fun j => xs[j]?

def flatD : D → Bool
  | .non => true
  | .bl _ => true
  | .int _ => true
  | .str _ => true
  | _ => false
def anyEq (ds : List D) (d : D) : Bool := ds.any fun z => D.eqv z d
def keyOk : D → Bool
  | .int _ => true
  | .str _ => true
  | _ => false
def dlook (k : D) : List D → List D → Option D
  | x :: xs, y :: ys => if D.eqv x k then some y else dlook k xs ys
  | _, _ => none
def dhas (k : D) (ks : List D) : Bool := ks.any fun z => D.eqv z k
def dsplit : List D → List D × List D
  | k :: v :: r => (k :: (dsplit r).1, v :: (dsplit r).2)
  | _ => ([], [])
def dput (k v : D) (ks vs : List D) : List D × List D :=
  if dhas k ks then (ks, (ks.zip vs).map fun p => if D.eqv p.1 k then v else p.2) else (ks ++ [k], vs ++ [v])

def shp2 (x y : D) : Bool := D.shp 60 x && D.shp 60 y

def op2 : Op → D → D → Option D
  | .add, x, y => match x, y with
    | .int i, .int j => some (.int (i + j))
    | .bl a, .int j => some (.int ((if a = true then (1 : Int) else 0) + j))
    | .str a, .str b => if Nat.ble (a.length + b.length) lineN then some (.str (a ++ b)) else none
    | .tup a, .tup b => if Nat.ble (a.length + b.length) lineN then some (.tup (a ++ b)) else none
    | .lst a, .lst b => if Nat.ble (a.length + b.length) lineN then some (.lst (a ++ b)) else none
    | _, _ => none
  | .sub, x, y => match x, y with
    | .int i, .int j => some (.int (i - j))
    | .bl a, .int j => some (.int ((if a = true then (1 : Int) else 0) - j))
    | _, _ => none
  | .mul, x, y => match x, y with
    | .int i, .int j => if mulOk i j then some (.int (i * j)) else none
    | .tup a, .int k => if shortI k && Nat.ble (a.length * k.toNat) lineN then some (.tup (List.replicate k.toNat a).flatten) else none
    | .lst a, .int k => if shortI k && Nat.ble (a.length * k.toNat) lineN then some (.lst (List.replicate k.toNat a).flatten) else none
    | _, _ => none
  | .fdiv, x, y => match x, y with
    | .int i, .int j => if divOk i j then some (.int (i.fdiv j)) else none
    | _, _ => none
  | .mod, x, y => match x, y with
    | .int i, .int j => if j == 0 then none else some (.int (i.fmod j))
    | _, _ => none
  | .pow, x, y => match x, y with
    | .int i, .int j => if powOk i j then some (.int (i ^ j.toNat)) else none
    | _, _ => none
  | .eq, x, y => if shp2 x y then some (.bl (D.eqv x y)) else none
  | .ne, x, y => if shp2 x y then some (.bl (!D.eqv x y)) else none
  | .lt, x, y => match x, y with
    | .int i, .int j => some (.bl (decide (i < j)))
    | _, _ => none
  | .le, x, y => match x, y with
    | .int i, .int j => some (.bl (decide (i ≤ j)))
    | _, _ => none
  | .gt, x, y => match x, y with
    | .int i, .int j => some (.bl (decide (j < i)))
    | _, _ => none
  | .ge, x, y => match x, y with
    | .int i, .int j => some (.bl (decide (j ≤ i)))
    | _, _ => none
  | .isin, x, y => match y with
    | .lst ds => if shp2 x y then some (.bl (anyEq ds x)) else none
    | .tup ds => if flatD x && ds.all flatD then some (.bl (anyEq ds x)) else none
    | .dic ks _ => if keyOk x then some (.bl (dhas x ks)) else none
    | _ => none
  | .notin, x, y => match y with
    | .lst ds => if shp2 x y then some (.bl (!anyEq ds x)) else none
    | .tup ds => if flatD x && ds.all flatD then some (.bl (!anyEq ds x)) else none
    | .dic ks _ => if keyOk x then some (.bl (!dhas x ks)) else none
    | _ => none
  | .is_, x, y => match y with
    | .non => match x with
      | .non => some (.bl true)
      | _ => some (.bl false)
    | _ => none
  | .isnt, x, y => match y with
    | .non => match x with
      | .non => some (.bl false)
      | _ => some (.bl true)
    | _ => none

def intsOf : List D → Option (List Int)
  | [] => some []
  | .int i :: r => (intsOf r).map (i :: ·)
  | _ :: _ => none
def blsOf : List D → Option (List Bool)
  | [] => some []
  | .bl i :: r => (blsOf r).map (i :: ·)
  | _ :: _ => none
def strsOf : List D → Option (List (List Nat))
  | [] => some []
  | .str i :: r => (strsOf r).map (i :: ·)
  | _ :: _ => none
def seqOf : D → Option (List D)
  | .tup ds => some ds
  | .lst ds => some ds
  | _ => none

/-- the digits of an int -/
def digs : Nat → Nat → List Nat → List Nat
  | 0, _, acc => acc
  | k + 1, n, acc => if n < 10 then (48 + n) :: acc else digs k (n / 10) ((48 + n % 10) :: acc)
def strI (i : Int) : List Nat := if i < 0 then 45 :: digs 80 i.natAbs [] else digs 80 i.natAbs []
def strIOk (i : Int) : Bool := Nat.blt i.natAbs 1000000000000000000000000

def insI (x : Int) : List Int → List Int
  | [] => [x]
  | y :: r => if x ≤ y then x :: y :: r else y :: insI x r
def sortI : List Int → List Int
  | [] => []
  | x :: r => insI x (sortI r)

def joinS (sep : List Nat) : List (List Nat) → List Nat
  | [] => []
  | [x] => x
  | x :: r => x ++ sep ++ joinS sep r
/-- cut at a sign -/
def splitS (c : Nat) : List Nat → List (List Nat)
  | [] => [[]]
  | x :: r => match splitS c r with
    | [] => [[]]
    | w :: ws => if x == c then [] :: w :: ws else (x :: w) :: ws

def upC (c : Nat) : Nat := if 97 ≤ c ∧ c ≤ 122 then c - 32 else c
def rangeI (lo : Int) (n : Nat) : List D := (List.range n).map fun i => D.int (lo + (i : Nat))

def maxI : Int → List Int → Int
  | m, [] => m
  | m, x :: r => maxI (if x > m then x else m) r

def bi : Bi → List D → Option D
  | .len, [x] => match x with
    | .tup ds => some (.int ds.length)
    | .lst ds => some (.int ds.length)
    | .str s => if Nat.ble s.length lineN then some (.int s.length) else none
    | .scr ds => some (.int ds.length)
    | _ => none
  | .int, [x] => match x with
    | .int i => some (.int i)
    | .bl b => some (.int (if b then 1 else 0))
    | _ => none
  | .bool, [x] => match x with
    | .bl b => some (.bl b)
    | _ => none
  | .abs, [x] => match x with
    | .int i => some (.int (if i < 0 then -i else i))
    | _ => none
  | .min2, [x, y] => match x, y with
    | .int i, .int j => some (.int (if j < i then j else i))
    | _, _ => none
  | .min3, [x, y, z] => match x, y, z with
    | .int i, .int j, .int k => some (.int (if k < (if j < i then j else i) then k else (if j < i then j else i)))
    | _, _, _ => none
  | .max2, [x, y] => match x, y with
    | .int i, .int j => some (.int (if j > i then j else i))
    | _, _ => none
  | .max1, [x] => match (seqOf x).bind intsOf with
    | some (i :: r) => some (.int (maxI i r))
    | _ => none
  | .sum, [x] => match x with
    | .lst ds => (intsOf ds).map fun ns => .int ns.sum
    | _ => none
  | .tuple, [x] => (seqOf x).map .tup
  | .list, [x] => (seqOf x).map .lst
  | .lrange, [x] => match x with
    | .int n => if decide (0 ≤ n) && Nat.ble n.toNat lineN then some (.lst (rangeI 0 n.toNat)) else none
    | _ => none
  | .lzip, [x, y] => match seqOf x, seqOf y with
    | some a, some b => some (.lst ((a.zip b).map fun p => .tup [p.1, p.2]))
    | _, _ => none
  | .dzip, [x, y] => match seqOf x, seqOf y with
    | some a, some b => if a.all keyOk && a.length == b.length then
        let r := (a.zip b).foldl (fun (r : List D × List D) p => dput p.1 p.2 r.1 r.2) ([], [])
        some (.dic r.1 r.2)
      else none
    | _, _ => none
  | .sorted, [x] => match x with
    | .lst ds => match intsOf ds with
      | some ns => if Nat.blt ns.length 64 then some (.lst ((sortI ns).map .int)) else none
      | none => none
    | _ => none
  | .any, [x] => match x with
    | .lst ds => (blsOf ds).map fun bs => .bl (bs.any id)
    | _ => none
  | .all, [x] => match x with
    | .lst ds => (blsOf ds).map fun bs => .bl (bs.all id)
    | _ => none
  | .str, [x] => match x with
    | .int i => if strIOk i then some (.str (strI i)) else none
    | .str s => some (.str s)
    | _ => none
  | .isint, [x] => match x with
    | .int _ => some (.bl true)
    | .bl _ => some (.bl true)
    | .mref _ => none
    | .fn _ => none
    | .scr _ => none
    | _ => some (.bl false)
  | .isbool, [x] => match x with
    | .bl _ => some (.bl true)
    | .mref _ => none
    | .fn _ => none
    | .scr _ => none
    | _ => some (.bl false)
  | .isstr, [x] => match x with
    | .str _ => some (.bl true)
    | .mref _ => none
    | .fn _ => none
    | .scr _ => none
    | _ => some (.bl false)
  | .istup, [x] => match x with
    | .tup _ => some (.bl true)
    | .mref _ => none
    | .fn _ => none
    | .scr _ => none
    | _ => some (.bl false)
  | .islst, [x] => match x with
    | .lst _ => some (.bl true)
    | .mref _ => none
    | .fn _ => none
    | .scr _ => none
    | _ => some (.bl false)
  | .get, [x, k, d] => match x with
    | .dic ks vs => if keyOk k then some ((dlook k ks vs).getD d) else none
    | _ => none
  | .join, [x, y] => match x, (seqOf y).bind strsOf with
    | .str s, some ws => if Nat.ble ((joinS s ws).length) lineN then some (.str (joinS s ws)) else none
    | _, _ => none
  | .split, [x, y] => match x, y with
    | .str s, .str [c] => some (.lst ((splitS c s).map .str))
    | _, _ => none
  | .upper, [x] => match x with
    | .str s => if (s.all fun c => Nat.blt c 128) && Nat.ble s.length lineN then some (.str (s.map upC)) else none
    | _ => none
  | .tnot, [x] => match x with
    | .bl b => some (.bl (!b))
    | .int i => some (.bl (i == 0))
    | _ => none
  | .index, [x, y] => match x, y with
    | .lst ds, .int i => (intsOf ds).bind fun ns => (ns.findIdx? (· == i)).map fun j => .int (j : Nat)
    | _, _ => none
  | _, _ => none

/-- the items that a for goes over -/
def items : ItK → List D → Option (List D)
  | .seq, [x] => match x with
    | .tup ds => some ds
    | .lst ds => some ds
    | _ => none
  | .rng, [x] => match x with
    | .int n => if shortI n then some (rangeI 0 n.toNat) else none
    | _ => none
  | .rng2, [x, y] => match x, y with
    | .int a, .int b => if shortI a && shortI b then some (rangeI a (b - a).toNat) else none
    | _, _ => none
  | .zip, [x, y] => match seqOf x, seqOf y with
    | some a, some b => some ((a.zip b).map fun p => .tup [p.1, p.2])
    | _, _ => none
  | .enum, [x] => match seqOf x with
    | some a => some ((a.zip (List.range a.length)).map fun p => .tup [.int (p.2 : Nat), p.1])
    | _ => none
  | _, _ => none

/-- a slice's bound as a place among n -/
def sIx (n d : Nat) : Option Int → Nat
  | none => d
  | some v => if v < 0 then (v + (n : Int)).toNat else min v.toNat n
def cut {α : Type} (xs : List α) (lo hi : Option Int) : List α :=
  (xs.drop (sIx xs.length 0 lo)).take (sIx xs.length xs.length hi - sIx xs.length 0 lo)
def slice (x : D) (lo hi : Option Int) : Option D := match x with
  | .tup ds => some (.tup (cut ds lo hi))
  | .lst ds => some (.lst (cut ds lo hi))
  | .str s => if Nat.ble s.length lineN then some (.str (cut s lo hi)) else none
  | _ => none
def revD : D → Option D
  | .lst ds => some (.lst ds.reverse)
  | .tup ds => if Nat.ble ds.length lineN then some (.tup ds.reverse) else none
  | _ => none
def slD : SlK → D → List D → Option D
  | .lo, x, [i] => match i with
    | .int i => slice x (some i) none
    | _ => none
  | .hi, x, [i] => match i with
    | .int i => slice x none (some i)
    | _ => none
  | .both, x, [i, j] => match i, j with
    | .int i, .int j => slice x (some i) (some j)
    | _, _ => none
  | .rev, x, [] => revD x
  | _, _, _ => none

def ixD (g : Gs) (x i : D) : Option D := match i with
  | .int k => match x with
    | .tup ds => atI ds k
    | .lst ds => atI ds k
    | .scr ds => atI ds k
    | .str s => if Nat.ble s.length lineN then (atI s k).map fun c => .str [c] else none
    | .dic ks vs => dlook (.int k) ks vs
    | .mref n => match g[n]? with
      | some ds => atI ds k
      | none => none
    | _ => none
  | .str s => match x with
    | .dic ks vs => dlook (.str s) ks vs
    | _ => none
  | _ => none

/-! ### slots -/
inductive Sl where
  | u
  | p (d : D)
  | o (d : D)
abbrev Env := List Sl
def Sl.fr : Sl → Sl
  | .o d => .p d
  | s => s
def setS : Env → Nat → Sl → Env
  | [], _, _ => []
  | _ :: r, 0, s => s :: r
  | a :: r, i + 1, s => a :: setS r i s
def getS : Env → Nat → Sl
  | [], _ => .u
  | a :: _, 0 => a
  | _ :: r, i + 1 => getS r i
def frzS : Env → Nat → Env
  | [], _ => []
  | a :: r, 0 => a.fr :: r
  | a :: r, i + 1 => a :: frzS r i
def frz : List Nat → Env → Env
  | [], env => env
  | i :: is, env => frz is (frzS env i)

mutual
def bindT : Tg → D → Env → Option Env
  | .nm i, d, env => some (setS env i (.p d))
  | .tp ts, d, env => match d with
    | .tup ds => bindTs ts ds env
    | _ => none
def bindTs : List Tg → List D → Env → Option Env
  | [], [], env => some env
  | t :: ts, d :: ds, env => match bindT t d env with
    | some env' => bindTs ts ds env'
    | none => none
  | _, _, _ => none
end

mutual
/-- the places of a target -/
def Tg.ix : Tg → List Nat
  | .nm i => [i]
  | .tp ts => Tg.ixs ts
def Tg.ixs : List Tg → List Nat
  | [] => []
  | t :: ts => Tg.ix t ++ Tg.ixs ts
end
def wipeS : List Nat → Env → Env
  | [], env => env
  | i :: is, env => setS (wipeS is env) i .u

/-! ### expressions -/
/-- the kind of thing whose method it is -/
def mtyp : Bi → D → Bool
  | .index, .lst _ => true
  | .join, .str _ => true
  | .split, .str _ => true
  | .get, .dic _ _ => true
  | .upper, .str _ => true
  | _, _ => false
def D.toI {β : Type} (d : D) (k : Int → R β) : R β := match d with
  | .int i => k i
  | _ => .no
section
variable (C : Nat → List D → Gs → R D)

/-- the loop of a comprehension -/
def compL (f : Env → Gs → R D) (c : Env → Gs → R D) (t : Tg) : List D → Env → Gs → R (List D)
  | [], _, g => .ok [] g
  | d :: ds, env, g => match bindT t d env with
    | none => .no
    | some e1 => match c e1 g with
      | .ok (.bl true) g1 => match f e1 g1 with
        | .ok x g2 => match compL f c t ds env g2 with
          | .ok xs g3 => .ok (x :: xs) g3
          | _ => .no
        | _ => .no
      | .ok (.bl false) g1 => compL f c t ds env g1
      | _ => .no

mutual
def evE : Ex → Env → Gs → R D
  | .lit d, _, g => .ok d g
  | .var i, env, g => match getS env i with
    | .p d => .ok d g
    | _ => .no
  | .line i, env, g => match getS env i with
    | .p d => .ok d g
    | _ => .no
  | .glo _ d, _, g => .ok d g
  | .fnv f, _, g => .ok (.fn f) g
  | .tup es, env, g => (evEs es env g).bind fun ds g => .ok (.tup ds) g
  | .lst es, env, g => (evEs es env g).bind fun ds g => .ok (.lst ds) g
  | .dic es _, env, g => (evEs es env g).bind fun ds g => if (dsplit ds).1.all keyOk && Nat.ble (dsplit ds).1.length 15 then
      .ok (.dic (((dsplit ds).1.zip (dsplit ds).2).foldl (fun (r : List D × List D) p => dput p.1 p.2 r.1 r.2) ([], [])).1 (((dsplit ds).1.zip (dsplit ds).2).foldl (fun (r : List D × List D) p => dput p.1 p.2 r.1 r.2) ([], [])).2) g else .no
  | .op o a b, env, g => (evE a env g).bind fun x g => (evE b env g).bind fun y g => .of (op2 o x y) g
  | .neg a, env, g => (evE a env g).bind fun x g => match x with
    | .int i => .ok (.int (-i)) g
    | _ => .no
  | .not a, env, g => (evE a env g).bind fun x g => match x with
    | .bl b => .ok (.bl (!b)) g
    | _ => .no
  | .and_ a b, env, g => (evE a env g).bind fun x g => match x with
    | .bl true => evE b env g
    | .bl false => .ok (.bl false) g
    | _ => .no
  | .or_ a b, env, g => (evE a env g).bind fun x g => match x with
    | .bl true => .ok (.bl true) g
    | .bl false => evE b env g
    | _ => .no
  | .chain o p a b c, env, g => (evE a env g).bind fun x g => (evE b env g).bind fun y g => match op2 o x y with
    | some (.bl true) => (evE c env g).bind fun z g => .of (op2 p y z) g
    | some (.bl false) => .ok (.bl false) g
    | _ => .no
  | .chain3 o p q a b c d, env, g => (evE a env g).bind fun x g => (evE b env g).bind fun y g => match op2 o x y with
    | some (.bl true) => (evE c env g).bind fun z g => match op2 p y z with
      | some (.bl true) => (evE d env g).bind fun w g => .of (op2 q z w) g
      | some (.bl false) => .ok (.bl false) g
      | _ => .no
    | some (.bl false) => .ok (.bl false) g
    | _ => .no
  | .ite c a b, env, g => (evE c env g).bind fun x g => match x with
    | .bl true => evE a env g
    | .bl false => evE b env g
    | _ => .no
  | .call f es, env, g => (evEs es env g).bind fun ds g => C f ds g
  | .bi b es, env, g => (evEs es env g).bind fun ds g => .of (bi b ds) g
  | .meth b a es, env, g => (evE a env g).bind fun x g => if mtyp b x then (evEs es env g).bind fun ds g => .of (bi b (x :: ds)) g else .no
  | .ix a i, env, g => (evE a env g).bind fun x g => (evE i env g).bind fun y g => .of (ixD g x y) g
  | .sl k a es, env, g => (evE a env g).bind fun x g => (evIs es env g).bind fun ds g => .of (slD k x ds) g
  | .comp e t k es c, env, g => (evEs es env g).bind fun ds g => match items k ds with
    | none => .no
    | some xs => if Nat.ble xs.length lineN then match compL (fun env g => evE e env g) (fun env g => evC c env g) t xs (wipeS t.ix env) g with
        | .ok ys g => .ok (.lst ys) g
        | _ => .no
      else .no
  | .fz is e, env, g => match evE e (frz is env) g with
    | .ok d g => if D.noL d then .ok d g else .no
    | _ => .no
def evEs : List Ex → Env → Gs → R (List D)
  | [], _, g => .ok [] g
  | e :: es, env, g => (evE e env g).bind fun d g => (evEs es env g).bind fun ds g => .ok (d :: ds) g
def evIs : List Ex → Env → Gs → R (List D)
  | [], _, g => .ok [] g
  | e :: es, env, g => (evE e env g).bind fun d g => d.toI fun i => (evIs es env g).bind fun ds g => .ok (.int i :: ds) g
def evC : List Ex → Env → Gs → R D
  | [], _, g => .ok (.bl true) g
  | [c], env, g => evE c env g
  | _, _, _ => .no
end
end

/-! ### statements -/
inductive SR where
  | nx (env : Env) (g : Gs)
  | ret (d : D) (g : Gs)
  | brk (env : Env) (g : Gs)
  | cnt (env : Env) (g : Gs)
  | exc (c : Nat) (p : D) (env : Env) (g : Gs)
  | no

def R.to (r : R D) (env : Env) (f : D → Gs → SR) : SR := match r with
  | .ok d g => f d g
  | .exc c p g => .exc c p env g
  | .no => .no

/-- the loop of a for -/
def forL (b : Env → Gs → SR) (t : Tg) : List D → Env → Gs → SR
  | [], env, g => .nx env g
  | d :: ds, env, g => match bindT t d env with
    | none => .no
    | some e1 => match b e1 g with
      | .nx e2 g2 => forL b t ds e2 g2
      | .cnt e2 g2 => forL b t ds e2 g2
      | .brk e2 g2 => .nx e2 g2
      | r => r
/-- the loop of a while -/
def whlL (c : Env → Gs → R D) (b : Env → Gs → SR) : Nat → Env → Gs → SR
  | 0, _, _ => .no
  | k + 1, env, g => match c env g with
    | .ok (.bl true) g1 => match b env g1 with
      | .nx e2 g2 => whlL c b k e2 g2
      | .cnt e2 g2 => whlL c b k e2 g2
      | .brk e2 g2 => .nx e2 g2
      | r => r
    | .ok (.bl false) g1 => .nx env g1
    | .exc x p g1 => .exc x p env g1
    | _ => .no

def isLst : D → Bool
  | .lst _ => true
  | .dic _ _ => true
  | _ => false

def setPar : List (Bool × Nat) → List D → Env → Option Env
  | [], [], env => some env
  | (own, i) :: ts, d :: ds, env => if own && !isLst d then none else setPar ts ds (setS env i (if own then .o d else .p d))
  | _, _, _ => none

def WF : Nat := 1000000

/-- a suite that raises is not told of -/
def SR.noX : SR → SR
  | .exc _ _ _ _ => .no
  | r => r
/-- the name of an except clause goes -/
def SR.drop (i : Nat) : SR → SR
  | .nx env g => .nx (setS env i .u) g
  | .brk env g => .brk (setS env i .u) g
  | .cnt env g => .cnt (setS env i .u) g
  | .exc c p env g => .exc c p (setS env i .u) g
  | r => r
section
variable (C : Nat → List D → Gs → R D)
mutual
def evS : St → Env → Gs → SR
  | .frz is, env, g => .nx (frz is env) g
  | .asg i e, env, g => (evE C e env g).to env fun d g => .nx (setS env i (.p d)) g
  | .own i e, env, g => (evE C e env g).to env fun d g => if isLst d then .nx (setS env i (.o d)) g else .no
  | .cel i e, env, g => (evE C e env g).to env fun d g => match d with
    | .lst ds => if D.noLs ds then .nx (setS env i (.p (.mref g.length))) (g ++ [ds]) else .no
    | _ => .no
  | .asg2 i j e, env, g => (evE C e env g).to env fun d g => .nx (setS (setS env i (.p d)) j (.p d)) g
  | .par ts es, env, g => match evEs C es env g with
    | .ok ds g => match setPar ts ds env with
      | some env => .nx env g
      | none => .no
    | .exc c p g => .exc c p env g
    | .no => .no
  | .unp t e, env, g => (evE C e env g).to env fun d g => match bindT t d env with
    | some env => .nx env g
    | none => .no
  | .app i e, env, g => match getS env i with
    | .o (.lst ds) => (evE C e env g).to env fun d g => if Nat.blt ds.length lineN then .nx (setS env i (.o (.lst (ds ++ [d])))) g else .no
    | _ => .no
  | .setx i j e, env, g => (evE C e env g).to env fun d g => match getS env i with
    | .o (.lst ds) => (evE C j env g).to env fun k g => match k with
      | .int n => match ixN ds.length n with
        | some m => .nx (setS env i (.o (.lst (ds.set m d)))) g
        | none => .no
      | _ => .no
    | .o (.dic ks vs) => (evE C j env g).to env fun k g => if keyOk k && Nat.blt ks.length lineN then .nx (setS env i (.o (.dic (dput k d ks vs).1 (dput k d ks vs).2))) g else .no
    | .p (.mref a) => (evE C j env g).to env fun k g => match k with
      | .int n => match g[a]? with
        | some ds => match ixN ds.length n with
          | some m => if D.noL d then .nx env (g.set a (ds.set m d)) else .no
          | none => .no
        | none => .no
      | _ => .no
    | _ => .no
  | .ex e, env, g => (evE C e env g).to env fun _ g => .nx env g
  | .ite c a b, env, g => (evE C c env g).to env fun x g => match x with
    | .bl true => evSs a env g
    | .bl false => evSs b env g
    | _ => .no
  | .for_ t k es body, env, g => match evEs C es env g with
    | .ok ds g => match items k ds with
      | some xs => forL (fun env g => evSs body env g) t xs env g
      | none => .no
    | .exc c p g => .exc c p env g
    | .no => .no
  | .whl c body, env, g => whlL (fun env g => evE C c env g) (fun env g => evSs body env g) WF env g
  | .ret e, env, g => (evE C e env g).to env fun d g => .ret d g
  | .retN, _, g => .ret .non g
  | .rai c es, env, g => match es with
    | [] => .exc c .non env g
    | [e] => (evE C e env g).to env fun d g => .exc c d env g
    | _ => .no
  | .pass, env, g => .nx env g
  | .brk, env, g => .brk env g
  | .cnt, env, g => .cnt env g
  | .try_ body hs, env, g => match evSs body env g with
    | .exc c p env' g' => evH hs c p env' g'
    | r => r
def evSs : List St → Env → Gs → SR
  | [], env, g => .nx env g
  | s :: ss, env, g => match evS s env g with
    | .nx env g => evSs ss env g
    | r => r
def evH : List (Nat × Option Nat × List St) → Nat → D → Env → Gs → SR
  | [], c, p, env, g => .exc c p env g
  | h :: hs, c, p, env, g => if h.1 == c || h.1 == 0 then (match h.2.1 with
      | none => (evSs h.2.2 env g).noX
      | some i => ((evSs h.2.2 (setS env i (.p p)) g).drop i).noX) else evH hs c p env g
end
end

structure Fn where
  np : Nat
  nl : Nat
  fr : Bool
  body : List St

def entry (F : Fn) (ds : List D) : Env := ds.map Sl.p ++ List.replicate (F.nl - ds.length) Sl.u
def outR : SR → R D
  | .ret d g => .ok d g
  | .nx _ g => .ok .non g
  | .exc c p _ g => .exc c p g
  | _ => .no
def runF (C : Nat → List D → Gs → R D) (F : Fn) (ds : List D) (g : Gs) : R D :=
  if ds.length == F.np then outR (evSs C F.body (entry F ds) g) else .no

def evF (T : Nat → Option Fn) : Nat → Nat → List D → Gs → R D
  | 0, _, _, _ => .no
  | n + 1, f, ds, g => match T f with
    | some F => runF (evF T n) F ds g
    | none => .no
end Rz

/-! RzH -/
set_option Elab.async false
set_option linter.all false
set_option maxRecDepth 100000
set_option maxHeartbeats 4000000
namespace Rz
open PySem PySem.Spec PyProof.Rows L2
def sOf (l : List Nat) : Str := ⟨l.toArray⟩
structure Tab where
  T : Nat → Option Fn
  nam : Nat → Option (Str × Nat)
  glo : List (List Nat × D)
  cls : List (Nat × Str) := []
def blts : List Str := ["len", "int", "bool", "abs", "min", "max", "sum", "tuple", "list", "sorted", "any", "all", "isinstance", "range", "zip", "enumerate", "str", "dict"]
/-! ### the hook: facts, defs, one Bool -/
def obsR (fa : List He.Fa) (fn : List He.DefD) (ex : PySem.W.Frag → Bool) (K : PySem.W.Frag) : He.AlD := (((fa.all fun f => f.ok K) && fn.all fun d => d.ok K) && ex K, fn.map fun d => He.fnW K d.at_)
def SaysR (fa : List He.Fa) (fn : List He.DefD) (ex : PySem.W.Frag → Bool) (K : PySem.W.Frag) : Prop := obsR fa fn ex K = He.valD fn
theorem SaysR.d {fa : List He.Fa} {fn : List He.DefD} {ex : PySem.W.Frag → Bool} {K : PySem.W.Frag} (c : SaysR fa fn ex K) : He.SaysD fa fn K ∧ ex K = true := by
  have c1 : (((fa.all fun f => f.ok K) && fn.all fun d => d.ok K) && ex K) = true := congrArg (fun z : He.AlD => z.1) c
  have c2 : (fn.map fun d => He.fnW K d.at_) = fn.map He.DefD.val := congrArg (fun z : He.AlD => z.2) c
  rw [Bool.and_eq_true] at c1
  exact ⟨Prod.ext c1.1 c2, c1.2⟩
def obsRG (n : Nat) (fa : List He.Fa) (fn : List He.DefD) (ex : PySem.W.Frag → Bool) (g : Addr → Option Obj) : He.AlD := obsR fa fn ex (He.frG g (He.asD g n))
def hookR (n : Nat) (fa : List He.Fa) (fn : List He.DefD) (ex : PySem.W.Frag → Bool) : PySem.W.Hook where
  α := He.AlD
  obs := fun s => obsRG n fa fn ex s.heap.get?
  val := fun _ => He.valD fn
  says := fun _ h => ∃ K : PySem.W.Frag, K.In h ∧ SaysR fa fn ex K
  of := fun _ _ e => ⟨_, He.frG_in, e⟩
  keeps := fun _ _ _ ⟨K, hK, c⟩ k => ⟨K, PySem.W.Frag.In.keeps hK k, c⟩
theorem obsRG_eq {n : Nat} {fa : List He.Fa} {fn : List He.DefD} {ex : PySem.W.Frag → Bool} {g : Addr → Option Obj} {s : Shared} (h : ∀ a, g a = s.heap.get? a) : obsRG n fa fn ex g = (hookR n fa fn ex).obs s := by
  have e : g = s.heap.get? := funext h
  rw [e] <;> rfl
/-! ### constants of the top -/
mutual
def repB (K : PySem.W.Frag) : D → Value → Bool
  | .non, .none => true
  | .bl b, .bool c => b == c
  | .int i, .int j _ => decide (i = j)
  | .str s, .str x _ => decide (sOf s = x)
  | .tup ds, .ref a => match K.lookup a with
    | some ⟨.type c, _, .seq its _, _⟩ => decide (c = "tuple") && decide (its.size ≤ sizeLine) && repBs K ds its.toList
    | _ => false
  | _, _ => false
def repBs (K : PySem.W.Frag) : List D → List Value → Bool
  | [], [] => true
  | d :: ds, u :: us => repB K d u && repBs K ds us
  | _, _ => false
end
def constB (K : PySem.W.Frag) (x : Str) (d : D) : Bool := match PySem.W.nsIn K mainGlobals x with
  | some (some u) => repB K d u
  | _ => false
/-! ### the rows of a law -/
structure Rw where
  id : Nat
  name : Str
  ps : List Str
  N : List Str
  F : Fn
  at_ : Nat
def topOf (P : Program) (i : Nat) : Stmt := P.main.body.getD i (.Pass ⟨0, 0, 0, 0⟩)
def mkD (P : Program) (r : Rw) : He.DefD := ⟨(r.name, none), r.name, r.name, defArgs (topOf P r.at_), defBody (topOf P r.at_), defScope (topOf P r.at_), [], []⟩
def rowOf (rows : List Rw) (f : Nat) : Option Rw := rows.find? fun r => r.id == f
/-- the classes of exceptions: what is caught by what -/
def exB (c d : Nat) : Bool := c == d || d == 0
def exmFa (cls : List (Nat × Str)) : List He.Fa := cls.flatMap fun c => cls.map fun d => .exm c.2 d.2 (exB c.1 d.1)
def clsFa (cls : List (Nat × Str)) : List He.Fa := (cls.map fun c => .glo c.2) ++ ((cls.map fun c => .exc c.2) ++ exmFa cls)
def tabOf (rows : List Rw) (glo : List (List Nat × D)) (cls : List (Nat × Str) := []) : Tab := ⟨fun f => (rowOf rows f).map (·.F), fun f => (rowOf rows f).map fun r => (r.name, r.ps.length), glo, cls⟩
def faOf (rows : List Rw) (cls : List (Nat × Str) := []) : List He.Fa := (rows.map fun r => He.Fa.glo r.name) ++ (blts.map He.Fa.free ++ clsFa cls)
def exOf (glo : List (List Nat × D)) (K : PySem.W.Frag) : Bool := glo.all fun p => constB K (sOf p.1) p.2
end Rz

namespace Rz
open PySem PySem.Spec PyProof.Rows L2
abbrev i_common : Nat := 0
abbrev i_lowest : Nat := 1
abbrev i_is_integer : Nat := 2
abbrev i_is_from : Nat := 3
abbrev i_is_any_fraction : Nat := 4
abbrev i_is_amount : Nat := 5
abbrev i_is_vessel : Nat := 6
abbrev i_is_step : Nat := 7
abbrev i_with_part : Nat := 8
abbrev i_moved_by : Nat := 9
abbrev i_waters_behind : Nat := 10
abbrev i_begins : Nat := 11
abbrev i_all_waters : Nat := 12
abbrev i_is_good : Nat := 13
abbrev i_is_dirt_for : Nat := 14
abbrev i_need_way : Nat := 15
abbrev i_is_way : Nat := 16
abbrev i_is_dirt : Nat := 17
abbrev i_volumes : Nat := 18
abbrev i_water : Nat := 19
abbrev i_law_sieve : Nat := 20
abbrev i_law_sift : Nat := 21
abbrev i_law_some : Nat := 22
abbrev i_law_low : Nat := 23
abbrev i_law_vessels : Nat := 24
abbrev i_law_step : Nat := 25
abbrev i_law_flow : Nat := 26
abbrev i_law_start : Nat := 27
abbrev i_law_way : Nat := 28
abbrev i_law_dirt : Nat := 29
abbrev i_law_int : Nat := 30
abbrev i_law_is_vessel : Nat := 31
abbrev i_law_is_step : Nat := 32
abbrev i_law_is_way : Nat := 33
abbrev i_law_is_dirt : Nat := 34
abbrev i_law_anything : Nat := 35
abbrev i_law_bent_k01 : Nat := 36
abbrev i_law_right_k01 : Nat := 37
abbrev i_law_water_right : Nat := 38
abbrev i_law_k01 : Nat := 39
def b_common : List St := [
    .whl (.op .gt (.var 1) (.lit (.int 0))) [.par [(false, 0), (false, 1)] [.var 1, .op .mod (.var 0) (.var 1)]], .ret (.var 0)]
def d_common : Fn := ⟨2, 2, false, b_common⟩
def b_lowest : List St := [
    .ite (.op .lt (.var 1) (.lit (.int 0))) [.par [(false, 0), (false, 1)] [.op .sub (.lit (.int 0)) (.var 0), .op .sub (.lit (.int 0)) (.var 1)]] [],
    .asg 2 (.call i_common [.bi .abs [.var 0], .var 1]), .ret (.tup [.op .fdiv (.var 0) (.var 2), .op .fdiv (.var 1) (.var 2)])]
def d_lowest : Fn := ⟨2, 3, false, b_lowest⟩
def b_is_integer : List St := [
    .ret (.and_ (.bi .isint [.var 0]) (.not (.bi .isbool [.var 0])))]
def d_is_integer : Fn := ⟨1, 1, false, b_is_integer⟩
def b_is_from : List St := [
    .ret (.and_ (.call i_is_integer [.var 0]) (.chain .le .le (.var 1) (.var 0) (.var 2)))]
def d_is_from : Fn := ⟨3, 3, false, b_is_from⟩
def b_is_any_fraction : List St := [
    .ite (.or_ (.not (.bi .istup [.var 0])) (.or_ (.op .ne (.bi .len [.var 0]) (.lit (.int 2))) (.or_ (.not (.call i_is_integer [.ix (.var 0) (.lit (.int 0))])) (.not (.call i_is_integer [.ix (.var 0) (.lit (.int 1))]))))) [.ret (.lit (.bl false))] [],
    .ret (.and_ (.op .ge (.ix (.var 0) (.lit (.int 1))) (.lit (.int 1))) (.op .eq (.call i_lowest [.ix (.var 0) (.lit (.int 0)),
    .ix (.var 0) (.lit (.int 1))]) (.var 0)))]
def d_is_any_fraction : Fn := ⟨1, 1, false, b_is_any_fraction⟩
def b_is_amount : List St := [
    .ret (.and_ (.call i_is_any_fraction [.var 0]) (.and_ (.chain .le .le (.lit (.int 0)) (.ix (.var 0) (.lit (.int 0))) (.glo [77, 79, 83, 84, 95, 80, 65, 82,
    84] (.int 100000000000000000000000000000000000000))) (.op .le (.ix (.var 0) (.lit (.int 1))) (.glo [77, 79, 83, 84, 95, 80, 65, 82,
    84] (.int 100000000000000000000000000000000000000)))))]
def d_is_amount : Fn := ⟨1, 1, false, b_is_amount⟩
def b_is_vessel : List St := [
    .ite (.or_ (.not (.bi .istup [.var 0])) (.or_ (.op .ne (.bi .len [.var 0]) (.lit (.int 3))) (.not (.call i_is_from [.ix (.var 0) (.lit (.int 0)), .lit (.int 2),
    .lit (.int 12)])))) [.ret (.lit (.bl false))] [], .ret (.and_ (.call i_is_from [.ix (.var 0) (.lit (.int 1)), .lit (.int 1),
    .op .sub (.ix (.var 0) (.lit (.int 0))) (.lit (.int 1))]) (.call i_is_from [.ix (.var 0) (.lit (.int 2)), .ix (.var 0) (.lit (.int 1)),
    .ix (.var 0) (.lit (.int 0))]))]
def d_is_vessel : Fn := ⟨1, 1, false, b_is_vessel⟩
def b_is_step : List St := [
    .ite (.or_ (.not (.bi .istup [.var 1])) (.or_ (.op .eq (.var 1) (.tup [])) (.not (.bi .isstr [.ix (.var 1) (.lit (.int 0))])))) [.ret (.lit (.bl false))] [],
    .ite (.op .eq (.ix (.var 1) (.lit (.int 0))) (.glo [84, 73, 80] (.str [116, 105,
    112]))) [.ret (.and_ (.op .eq (.bi .len [.var 1]) (.lit (.int 2))) (.call i_is_from [.ix (.var 1) (.lit (.int 1)), .lit (.int 0),
    .op .sub (.var 0) (.lit (.int 1))]))] [], .ite (.op .eq (.ix (.var 1) (.lit (.int 0))) (.glo [70, 73, 76, 76] (.str [102, 105, 108,
    108]))) [.ret (.and_ (.op .eq (.bi .len [.var 1]) (.lit (.int 3))) (.and_ (.call i_is_from [.ix (.var 1) (.lit (.int 1)), .lit (.int 0),
    .op .sub (.var 0) (.lit (.int 1))]) (.call i_is_from [.ix (.var 1) (.lit (.int 2)), .lit (.int 1), .lit (.int 12)])))] [],
    .ite (.or_ (.op .ne (.ix (.var 1) (.lit (.int 0))) (.glo [80, 79, 85, 82] (.str [112, 111, 117,
    114]))) (.or_ (.op .ne (.bi .len [.var 1]) (.lit (.int 4))) (.not (.call i_is_from [.ix (.var 1) (.lit (.int 3)), .lit (.int 1),
    .lit (.int 12)])))) [.ret (.lit (.bl false))] [], .ret (.and_ (.call i_is_from [.ix (.var 1) (.lit (.int 1)), .lit (.int 0),
    .op .sub (.var 0) (.lit (.int 1))]) (.and_ (.call i_is_from [.ix (.var 1) (.lit (.int 2)), .lit (.int 0),
    .op .sub (.var 0) (.lit (.int 1))]) (.op .ne (.ix (.var 1) (.lit (.int 1))) (.ix (.var 1) (.lit (.int 2))))))]
def d_is_step : Fn := ⟨2, 2, false, b_is_step⟩
def b_with_part : List St := [
    .ret (.op .add (.op .add (.sl .hi (.var 0) [.var 1]) (.tup [.var 2])) (.sl .lo (.var 0) [.op .add (.var 1) (.lit (.int 1))]))]
def d_with_part : Fn := ⟨3, 3, true, b_with_part⟩
def b_moved_by : List St := [
    .unp (.tp [(.nm 3), (.nm 4), (.nm 5)]) (.ix (.var 0) (.ix (.var 2) (.lit (.int 1)))), .asg 6 (.ix (.var 1) (.ix (.var 2) (.lit (.int 1)))),
    .ite (.op .eq (.ix (.var 2) (.lit (.int 0))) (.glo [70, 73, 76, 76] (.str [102, 105, 108, 108]))) [.ret (.bi .min2 [.ix (.var 2) (.lit (.int 2)),
    .op .sub (.var 3) (.var 6)])] [], .ite (.op .eq (.ix (.var 2) (.lit (.int 0))) (.glo [84, 73, 80] (.str [116, 105,
    112]))) [.ret (.op .sub (.var 6) (.var 4))] [], .ret (.bi .min3 [.ix (.var 2) (.lit (.int 3)), .op .sub (.var 6) (.var 4),
    .op .sub (.ix (.ix (.var 0) (.ix (.var 2) (.lit (.int 2)))) (.lit (.int 0))) (.ix (.var 1) (.ix (.var 2) (.lit (.int 2))))])]
def d_moved_by : Fn := ⟨3, 7, false, b_moved_by⟩
def b_waters_behind : List St := [
    .asg 3 (.call i_moved_by [.var 0, .var 1, .var 2]), .ite (.op .eq (.ix (.var 2) (.lit (.int 0))) (.glo [70, 73, 76, 76] (.str [102, 105, 108,
    108]))) [.ret (.call i_with_part [.var 1, .ix (.var 2) (.lit (.int 1)), .op .add (.ix (.var 1) (.ix (.var 2) (.lit (.int 1)))) (.var 3)])] [],
    .asg 4 (.call i_with_part [.var 1, .ix (.var 2) (.lit (.int 1)), .op .sub (.ix (.var 1) (.ix (.var 2) (.lit (.int 1)))) (.var 3)]),
    .ret (.ite (.op .eq (.ix (.var 2) (.lit (.int 0))) (.glo [84, 73, 80] (.str [116, 105, 112]))) (.var 4) (.call i_with_part [.var 4,
    .ix (.var 2) (.lit (.int 2)), .op .add (.ix (.var 1) (.ix (.var 2) (.lit (.int 2)))) (.var 3)]))]
def d_waters_behind : Fn := ⟨3, 5, false, b_waters_behind⟩
def b_begins : List St := [
    .ret (.bi .tuple [.comp (.ix (.var 1) (.lit (.int 2))) (.nm 1) .seq [.var 0] []])]
def d_begins : Fn := ⟨1, 2, false, b_begins⟩
def b_all_waters : List St := [
    .unp (.tp [(.nm 1), (.nm 2)]) (.var 0), .asg 3 (.lst [.call i_begins [.var 1]]),
    .for_ (.nm 4) .seq [.var 2] [.asg 3 (.op .add (.var 3) (.lst [.call i_waters_behind [.var 1, .ix (.var 3) (.neg (.lit (.int 1))), .var 4]]))],
    .ret (.sl .lo (.var 3) [.lit (.int 1)])]
def d_all_waters : Fn := ⟨1, 5, true, b_all_waters⟩
def b_is_good : List St := [
    .ite (.or_ (.not (.bi .istup [.var 0])) (.or_ (.op .ne (.bi .len [.var 0]) (.lit (.int 2))) (.not (.bi .istup [.ix (.var 0) (.lit (.int 0))])))) [.ret (.lit (.bl false))] [],
    .ite (.or_ (.not (.chain .le .le (.lit (.int 1)) (.bi .len [.ix (.var 0) (.lit (.int 0))]) (.lit (.int 3)))) (.not (.bi .all [.comp (.call i_is_vessel [.var 1]) (.nm 1) .seq [.ix (.var 0) (.lit (.int 0))] []]))) [.ret (.lit (.bl false))] [],
    .ite (.or_ (.not (.bi .istup [.ix (.var 0) (.lit (.int 1))])) (.not (.chain .le .le (.lit (.int 1)) (.bi .len [.ix (.var 0) (.lit (.int 1))]) (.lit (.int 8))))) [.ret (.lit (.bl false))] [],
    .ite (.not (.bi .all [.comp (.call i_is_step [.bi .len [.ix (.var 0) (.lit (.int 0))],
    .var 2]) (.nm 2) .seq [.ix (.var 0) (.lit (.int 1))] []])) [.ret (.lit (.bl false))] [],
    .ret (.op .eq (.ix (.call i_all_waters [.var 0]) (.neg (.lit (.int 1)))) (.call i_begins [.ix (.var 0) (.lit (.int 0))]))]
def d_is_good : Fn := ⟨1, 3, false, b_is_good⟩
def b_is_dirt_for : List St := [
    .ret (.and_ (.bi .istup [.var 1]) (.and_ (.op .eq (.bi .len [.var 1]) (.var 0)) (.bi .all [.comp (.call i_is_amount [.var 2]) (.nm 2) .seq [.var 1] []])))]
def d_is_dirt_for : Fn := ⟨2, 3, false, b_is_dirt_for⟩
def b_need_way : List St := [
    .ite (.not (.call i_is_good [.var 0])) [.rai 1 []] []]
def d_need_way : Fn := ⟨1, 1, false, b_need_way⟩
def b_is_way : List St := [
    .ret (.call i_is_good [.var 0])]
def d_is_way : Fn := ⟨1, 1, false, b_is_way⟩
def b_is_dirt : List St := [
    .ex (.call i_need_way [.var 0]), .ret (.call i_is_dirt_for [.bi .len [.ix (.var 0) (.lit (.int 0))], .var 1])]
def d_is_dirt : Fn := ⟨2, 2, false, b_is_dirt⟩
def b_volumes : List St := [
    .ex (.call i_need_way [.var 0]), .ret (.call i_all_waters [.var 0])]
def d_volumes : Fn := ⟨1, 1, false, b_volumes⟩
def b_water : List St := [
    .ex (.call i_need_way [.var 0]), .unp (.tp [(.nm 1), (.nm 2)]) (.var 0), .par [(false, 3), (false, 4), (false, 5)] [.call i_begins [.var 1], .lit (.int 0),
    .lit (.int 0)], .for_ (.nm 6) .seq [.var 2] [.asg 7 (.call i_moved_by [.var 1, .var 3, .var 6]), .par [(false, 4), (false,
    5)] [.op .add (.var 4) (.op .mul (.var 7) (.bi .int [.op .eq (.ix (.var 6) (.lit (.int 0))) (.glo [70, 73, 76, 76] (.str [102, 105, 108, 108]))])),
    .op .add (.var 5) (.op .mul (.var 7) (.bi .int [.op .eq (.ix (.var 6) (.lit (.int 0))) (.glo [84, 73, 80] (.str [116, 105, 112]))]))],
    .asg 3 (.call i_waters_behind [.var 1, .var 3, .var 6])], .ret (.tup [.var 4, .var 5])]
def d_water : Fn := ⟨1, 8, false, b_water⟩
def b_law_sieve : List St := [
    .asg 2 (.ite (.op .lt (.var 1) (.bi .len [.var 0])) (.bi .abs [.bi .int [.ix (.var 0) (.var 1)]]) (.op .add (.op .mul (.lit (.int 47)) (.var 1)) (.lit (.int 23)))),
    .ret (.lst [.ite (.op .ge (.var 2) (.op .pow (.lit (.int 10)) (.lit (.int 18)))) (.var 2) (.lit (.int 0)),
    .op .mod (.bi .int [.op .add (.op .add (.op .mod (.bi .int [.var 2]) (.lit (.int 2147482811))) (.op .mul (.lit (.int 70001)) (.var 1))) (.lit (.int 89))]) (.lit (.int 2147482811))])]
def d_law_sieve : Fn := ⟨2, 3, true, b_law_sieve⟩
def b_law_sift : List St := [
    .ite (.op .gt (.ix (.var 0) (.lit (.int 0))) (.lit (.int 0))) [.asg 2 (.op .mod (.bi .int [.ix (.var 0) (.lit (.int 0))]) (.var 1)),
    .setx 0 (.lit (.int 0)) (.op .fdiv (.bi .int [.ix (.var 0) (.lit (.int 0))]) (.var 1)), .ret (.var 2)] [],
    .setx 0 (.lit (.int 1)) (.op .mod (.bi .int [.op .add (.op .mul (.ix (.var 0) (.lit (.int 1))) (.lit (.int 40009))) (.lit (.int 1013))]) (.lit (.int 2147482811))),
    .asg 3 (.op .mod (.op .mul (.bi .int [.ix (.var 0) (.lit (.int 1))]) (.op .add (.op .fdiv (.bi .int [.ix (.var 0) (.lit (.int 1))]) (.lit (.int 29))) (.lit (.int 31)))) (.lit (.int 2147482763))),
    .ret (.op .mod (.bi .int [.op .fdiv (.bi .int [.var 3]) (.lit (.int 27))]) (.var 1))]
def d_law_sift : Fn := ⟨2, 4, false, b_law_sift⟩
def b_law_some : List St := [
    .ret (.ix (.var 1) (.call i_law_sift [.var 0, .bi .len [.var 1]]))]
def d_law_some : Fn := ⟨2, 2, false, b_law_some⟩
def b_law_low : List St := [
    .par [(false, 2), (false, 3)] [.bi .abs [.var 0], .bi .abs [.var 1]], .whl (.op .ne (.var 3) (.lit (.int 0))) [.par [(false, 2), (false, 3)] [.var 3,
    .op .mod (.var 2) (.var 3)]], .ret (.ite (.op .gt (.var 1) (.lit (.int 0))) (.tup [.op .fdiv (.var 0) (.var 2),
    .op .fdiv (.var 1) (.var 2)]) (.tup [.op .fdiv (.neg (.var 0)) (.var 2), .op .fdiv (.neg (.var 1)) (.var 2)]))]
def d_law_low : Fn := ⟨2, 4, false, b_law_low⟩
def b_law_vessels : List St := [
    .asg 2 (.tup []), .for_ (.nm 3) .rng [.op .add (.var 1) (.call i_law_sift [.var 0,
    .op .sub (.lit (.int 4)) (.var 1)])] [.asg 4 (.op .add (.lit (.int 2)) (.call i_law_sift [.var 0, .call i_law_some [.var 0, .lst [.lit (.int 4),
    .lit (.int 11)]]])), .asg 5 (.op .add (.lit (.int 1)) (.call i_law_sift [.var 0, .call i_law_some [.var 0, .lst [.lit (.int 1),
    .op .sub (.var 4) (.lit (.int 1))]]])), .asg 6 (.op .mul (.call i_law_sift [.var 0,
    .op .add (.op .sub (.var 4) (.var 5)) (.lit (.int 1))]) (.call i_law_sift [.var 0, .lit (.int 2)])), .asg 2 (.op .add (.var 2) (.tup [.tup [.var 4, .var 5,
    .op .add (.var 5) (.var 6)]]))], .ret (.var 2)]
def d_law_vessels : Fn := ⟨2, 7, false, b_law_vessels⟩
def b_law_step : List St := [
    .par [(false, 2), (false, 3)] [.call i_law_sift [.var 0, .var 1], .call i_law_sift [.var 0, .lit (.int 5)]],
    .asg 4 (.op .add (.lit (.int 1)) (.call i_law_sift [.var 0, .call i_law_some [.var 0, .lst [.lit (.int 4), .lit (.int 12)]]])),
    .ite (.op .lt (.var 3) (.lit (.int 2))) [.ret (.tup [.lit (.str [102, 105, 108, 108]), .var 2, .var 4])] [],
    .ite (.and_ (.op .lt (.var 3) (.lit (.int 4))) (.op .gt (.var 1) (.lit (.int 1)))) [.asg 5 (.op .mod (.op .add (.op .add (.var 2) (.lit (.int 1))) (.call i_law_sift [.var 0,
    .op .sub (.var 1) (.lit (.int 1))])) (.var 1)), .ret (.tup [.lit (.str [112, 111, 117, 114]), .var 2, .var 5, .var 4])] [], .ret (.tup [.lit (.str [116, 105,
    112]), .var 2])]
def d_law_step : Fn := ⟨2, 6, false, b_law_step⟩
def b_law_flow : List St := [
    .par [(false, 3), (true, 4)] [.ix (.var 2) (.lit (.int 1)), .bi .list [.var 1]], .ite (.op .eq (.ix (.var 2) (.lit (.int 0))) (.lit (.str [102, 105, 108,
    108]))) [.asg 5 (.bi .min2 [.ix (.var 2) (.lit (.int 2)), .op .sub (.ix (.ix (.var 0) (.var 3)) (.lit (.int 0))) (.ix (.var 1) (.var 3))]),
    .setx 4 (.var 3) (.op .add (.ix (.var 1) (.var 3)) (.var 5))] [.ite (.op .eq (.ix (.var 2) (.lit (.int 0))) (.lit (.str [116, 105,
    112]))) [.asg 5 (.op .sub (.ix (.var 1) (.var 3)) (.ix (.ix (.var 0) (.var 3)) (.lit (.int 1)))),
    .setx 4 (.var 3) (.ix (.ix (.var 0) (.var 3)) (.lit (.int 1)))] [.asg 6 (.ix (.var 2) (.lit (.int 2))), .asg 5 (.bi .min2 [.ix (.var 2) (.lit (.int 3)),
    .op .sub (.ix (.ix (.var 0) (.var 6)) (.lit (.int 0))) (.ix (.var 1) (.var 6))]), .asg 5 (.bi .min2 [.var 5,
    .op .sub (.ix (.var 1) (.var 3)) (.ix (.ix (.var 0) (.var 3)) (.lit (.int 1)))]), .setx 4 (.var 3) (.op .sub (.ix (.var 1) (.var 3)) (.var 5)),
    .setx 4 (.var 6) (.op .add (.ix (.var 1) (.var 6)) (.var 5))]], .frz [4], .ret (.tup [.var 5, .bi .tuple [.var 4]])]
def d_law_flow : Fn := ⟨3, 7, false, b_law_flow⟩
def b_law_start : List St := [
    .ret (.bi .tuple [.comp (.ix (.var 1) (.lit (.int 2))) (.nm 1) .seq [.var 0] []])]
def d_law_start : Fn := ⟨1, 2, false, b_law_start⟩
def b_law_way : List St := [
    .par [(false, 2), (false, 3)] [.tup [], .call i_law_start [.var 1]], .for_ (.nm 4) .rng [.op .add (.lit (.int 1)) (.call i_law_sift [.var 0,
    .op .sub (.lit (.int 8)) (.op .mul (.lit (.int 2)) (.bi .len [.var 1]))])] [.asg 5 (.call i_law_step [.var 0, .bi .len [.var 1]]), .par [(false, 2), (false,
    3)] [.op .add (.var 2) (.tup [.var 5]), .ix (.call i_law_flow [.var 1, .var 3, .var 5]) (.lit (.int 1))]], .for_ (.nm 6) .rng [.bi .len [.var 1]] [.par [(true,
    7), (false, 8)] [.lst [], .op .sub (.ix (.ix (.var 1) (.var 6)) (.lit (.int 2))) (.ix (.var 3) (.var 6))],
    .ite (.op .lt (.var 8) (.lit (.int 0))) [.par [(true, 7), (false, 8)] [.lst [.tup [.lit (.str [116, 105, 112]), .var 6]],
    .op .sub (.ix (.ix (.var 1) (.var 6)) (.lit (.int 2))) (.ix (.ix (.var 1) (.var 6)) (.lit (.int 1)))]] [],
    .ite (.op .gt (.var 8) (.lit (.int 0))) [.app 7 (.tup [.lit (.str [102, 105, 108, 108]), .var 6, .var 8])] [], .frz [7],
    .asg 2 (.op .add (.var 2) (.bi .tuple [.var 7]))], .ret (.tup [.var 1, .var 2])]
def d_law_way : Fn := ⟨2, 9, false, b_law_way⟩
def b_law_dirt : List St := [
    .asg 2 (.tup []), .for_ (.nm 3) .rng [.var 1] [.asg 4 (.call i_law_some [.var 0, .lst [.lit (.int 0), .lit (.int 1), .lit (.int 3), .lit (.int 10), .lit (.int 25),
    .op .pow (.lit (.int 10)) (.lit (.int 20))]]), .asg 2 (.op .add (.var 2) (.tup [.call i_law_low [.var 4, .call i_law_some [.var 0, .lst [.lit (.int 1),
    .lit (.int 1), .lit (.int 2), .lit (.int 9)]]]]))], .ret (.var 2)]
def d_law_dirt : Fn := ⟨2, 5, false, b_law_dirt⟩
def b_law_int : List St := [
    .ret (.and_ (.bi .isint [.var 0]) (.and_ (.not (.bi .isbool [.var 0])) (.chain .le .le (.var 1) (.var 0) (.var 2))))]
def d_law_int : Fn := ⟨3, 3, false, b_law_int⟩
def b_law_is_vessel : List St := [
    .ite (.or_ (.not (.bi .istup [.var 0])) (.or_ (.op .ne (.bi .len [.var 0]) (.lit (.int 3))) (.not (.call i_law_int [.ix (.var 0) (.lit (.int 0)), .lit (.int 2),
    .lit (.int 12)])))) [.ret (.lit (.bl false))] [], .ret (.and_ (.call i_law_int [.ix (.var 0) (.lit (.int 1)), .lit (.int 1),
    .op .sub (.ix (.var 0) (.lit (.int 0))) (.lit (.int 1))]) (.call i_law_int [.ix (.var 0) (.lit (.int 2)), .ix (.var 0) (.lit (.int 1)),
    .ix (.var 0) (.lit (.int 0))]))]
def d_law_is_vessel : Fn := ⟨1, 1, false, b_law_is_vessel⟩
def b_law_is_step : List St := [
    .ite (.or_ (.not (.bi .istup [.var 0])) (.or_ (.op .notin (.bi .len [.var 0]) (.lst [.lit (.int 2), .lit (.int 3),
    .lit (.int 4)])) (.not (.bi .isstr [.ix (.var 0) (.lit (.int 0))])))) [.ret (.lit (.bl false))] [],
    .ite (.or_ (.op .notin (.ix (.var 0) (.lit (.int 0))) (.lst [.lit (.str [116, 105, 112]), .lit (.str [102, 105, 108, 108]), .lit (.str [112, 111, 117,
    114])])) (.op .ne (.bi .len [.var 0]) (.ix (.dic [.lit (.str [116, 105, 112]), .lit (.int 2), .lit (.str [102, 105, 108, 108]), .lit (.int 3), .lit (.str [112,
    111, 117, 114]), .lit (.int 4)] []) (.ix (.var 0) (.lit (.int 0)))))) [.ret (.lit (.bl false))] [], .asg 2 (.sl .both (.var 0) [.lit (.int 1),
    .op .sub (.bi .len [.var 0]) (.bi .int [.op .ne (.ix (.var 0) (.lit (.int 0))) (.lit (.str [116, 105, 112]))])]),
    .ite (.op .ne (.comp (.var 3) (.nm 3) .seq [.var 2] [.not (.call i_law_int [.var 3, .lit (.int 0),
    .op .sub (.var 1) (.lit (.int 1))])]) (.lst [])) [.ret (.lit (.bl false))] [], .ite (.and_ (.op .ne (.ix (.var 0) (.lit (.int 0))) (.lit (.str [116, 105,
    112]))) (.not (.call i_law_int [.ix (.var 0) (.neg (.lit (.int 1))), .lit (.int 1), .lit (.int 12)]))) [.ret (.lit (.bl false))] [],
    .ret (.or_ (.op .ne (.ix (.var 0) (.lit (.int 0))) (.lit (.str [112, 111, 117,
    114]))) (.op .ne (.ix (.var 0) (.lit (.int 1))) (.ix (.var 0) (.lit (.int 2)))))]
def d_law_is_step : Fn := ⟨2, 4, false, b_law_is_step⟩
def b_law_is_way : List St := [
    .ite (.or_ (.not (.bi .istup [.var 0])) (.or_ (.op .ne (.bi .len [.var 0]) (.lit (.int 2))) (.not (.bi .istup [.ix (.var 0) (.lit (.int 0))])))) [.ret (.lit (.bl false))] [],
    .ite (.or_ (.op .notin (.bi .len [.ix (.var 0) (.lit (.int 0))]) (.lst [.lit (.int 1), .lit (.int 2),
    .lit (.int 3)])) (.op .ne (.comp (.var 1) (.nm 1) .seq [.ix (.var 0) (.lit (.int 0))] [.not (.call i_law_is_vessel [.var 1])]) (.lst []))) [.ret (.lit (.bl false))] [],
    .ite (.or_ (.not (.bi .istup [.ix (.var 0) (.lit (.int 1))])) (.not (.chain .le .le (.lit (.int 1)) (.bi .len [.ix (.var 0) (.lit (.int 1))]) (.lit (.int 8))))) [.ret (.lit (.bl false))] [],
    .ite (.op .ne (.comp (.var 2) (.nm 2) .seq [.ix (.var 0) (.lit (.int 1))] [.not (.call i_law_is_step [.var 2,
    .bi .len [.ix (.var 0) (.lit (.int 0))]])]) (.lst [])) [.ret (.lit (.bl false))] [], .asg 3 (.call i_law_start [.ix (.var 0) (.lit (.int 0))]),
    .for_ (.nm 2) .seq [.ix (.var 0) (.lit (.int 1))] [.asg 3 (.ix (.call i_law_flow [.ix (.var 0) (.lit (.int 0)), .var 3, .var 2]) (.lit (.int 1)))],
    .ret (.op .eq (.var 3) (.call i_law_start [.ix (.var 0) (.lit (.int 0))]))]
def d_law_is_way : Fn := ⟨1, 4, false, b_law_is_way⟩
def b_law_is_dirt : List St := [
    .ite (.or_ (.not (.bi .istup [.var 0])) (.op .ne (.bi .len [.var 0]) (.var 1))) [.ret (.lit (.bl false))] [],
    .for_ (.nm 2) .seq [.var 0] [.ite (.or_ (.not (.bi .istup [.var 2])) (.op .ne (.bi .len [.var 2]) (.lit (.int 2)))) [.ret (.lit (.bl false))] [],
    .ite (.or_ (.not (.call i_law_int [.ix (.var 2) (.lit (.int 0)), .lit (.int 0),
    .op .pow (.lit (.int 10)) (.lit (.int 38))])) (.not (.call i_law_int [.ix (.var 2) (.lit (.int 1)), .lit (.int 1),
    .op .pow (.lit (.int 10)) (.lit (.int 38))]))) [.ret (.lit (.bl false))] [], .ite (.op .ne (.call i_law_low [.ix (.var 2) (.lit (.int 0)),
    .ix (.var 2) (.lit (.int 1))]) (.var 2)) [.ret (.lit (.bl false))] []], .ret (.lit (.bl true))]
def d_law_is_dirt : Fn := ⟨2, 3, false, b_law_is_dirt⟩
def b_law_anything : List St := [
    .ite (.or_ (.op .eq (.var 1) (.lit (.int 0))) (.op .lt (.call i_law_sift [.var 0, .lit (.int 8)]) (.lit (.int 5)))) [.asg 2 (.lst [.lit (.int 0), .lit (.int 1),
    .neg (.lit (.int 1)), .lit (.int 2), .lit (.int 12), .lit (.int 13), .lit (.bl true), .lit (.bl false), .lit (.non), .lit (.str []), .lit (.str [102, 105, 108,
    108]), .lit (.str [116, 105, 112]), .tup [], .lst [], .tup [.lit (.int 0), .lit (.int 1)], .tup [.lit (.int 2), .lit (.int 4)], .tup [.lit (.int 5),
    .lit (.int 1), .lit (.int 1)]]), .ret (.call i_law_some [.var 0, .op .add (.var 2) (.lst [.tup [.lit (.str [116, 105, 112]), .lit (.int 0)],
    .tup [.lit (.str [102, 105, 108, 108]), .lit (.int 0), .lit (.int 3)], .op .pow (.lit (.int 10)) (.lit (.int 39))])])] [],
    .asg 3 (.comp (.call i_law_anything [.var 0, .op .sub (.var 1) (.lit (.int 1))]) (.nm 4) .rng [.call i_law_sift [.var 0, .lit (.int 4)]] []),
    .ret (.ite (.op .eq (.call i_law_sift [.var 0, .lit (.int 3)]) (.lit (.int 0))) (.var 3) (.bi .tuple [.var 3]))]
def d_law_anything : Fn := ⟨2, 5, false, b_law_anything⟩
def b_law_bent_k01 : List St := [
    .ite (.or_ (.not (.bi .istup [.var 1])) (.or_ (.op .eq (.var 1) (.tup [])) (.op .eq (.call i_law_sift [.var 0,
    .lit (.int 6)]) (.lit (.int 0))))) [.asg 2 (.lst [.call i_law_anything [.var 0, .lit (.int 1)], .lst [.var 1]]),
    .ite (.bi .isstr [.var 1]) [.asg 2 (.op .add (.var 2) (.lst [.op .add (.var 1) (.lit (.str [115])), .lit (.str [112, 111, 117, 114]), .lit (.str [116, 105,
    112]), .meth .upper (.var 1) []]))] [.ite (.bi .isint [.var 1]) [.asg 2 (.op .add (.var 2) (.lst [.op .add (.var 1) (.lit (.int 1)),
    .op .sub (.var 1) (.lit (.int 1)), .op .add (.var 1) (.lit (.int 9)), .bi .tnot [.var 1]]))] []], .ret (.call i_law_some [.var 0, .var 2])] [], .par [(false,
    3), (false, 4)] [.call i_law_sift [.var 0, .bi .len [.var 1]], .call i_law_sift [.var 0, .lit (.int 8)]],
    .ite (.op .eq (.var 4) (.lit (.int 0))) [.ret (.op .add (.sl .hi (.var 1) [.var 3]) (.sl .lo (.var 1) [.op .add (.var 3) (.lit (.int 1))]))] [],
    .ite (.op .eq (.var 4) (.lit (.int 1))) [.ret (.op .add (.op .add (.sl .hi (.var 1) [.var 3]) (.op .mul (.sl .both (.var 1) [.var 3,
    .op .add (.var 3) (.lit (.int 1))]) (.lit (.int 2)))) (.sl .lo (.var 1) [.op .add (.var 3) (.lit (.int 1))]))] [],
    .ite (.op .eq (.var 4) (.lit (.int 2))) [.ret (.sl .rev (.var 1) [])] [], .ite (.op .eq (.var 4) (.lit (.int 3))) [.ret (.bi .list [.var 1])] [],
    .ret (.op .add (.op .add (.sl .hi (.var 1) [.var 3]) (.tup [.call i_law_bent_k01 [.var 0,
    .ix (.var 1) (.var 3)]])) (.sl .lo (.var 1) [.op .add (.var 3) (.lit (.int 1))]))]
def d_law_bent_k01 : Fn := ⟨2, 5, false, b_law_bent_k01⟩
def b_law_right_k01 : List St := [
    .asg 2 (.lst [.call i_is_way [.var 1], .call i_is_dirt [.var 0, .var 1]]),
    .ite (.op .ne (.comp (.var 3) (.nm 3) .seq [.var 2] [.not (.bi .isbool [.var 3])]) (.lst [])) [.ret (.lit (.bl false))] [],
    .ret (.op .eq (.var 2) (.lst [.call i_law_is_way [.var 1], .call i_law_is_dirt [.var 1, .bi .len [.ix (.var 0) (.lit (.int 0))]]]))]
def d_law_right_k01 : Fn := ⟨2, 4, false, b_law_right_k01⟩
def b_law_water_right : List St := [
    .par [(false, 1), (true, 2), (false, 3), (false, 4)] [.call i_law_start [.ix (.var 0) (.lit (.int 0))], .lst [], .lit (.int 0), .lit (.int 0)],
    .for_ (.nm 5) .seq [.ix (.var 0) (.lit (.int 1))] [.unp (.tp [(.nm 6), (.nm 1)]) (.call i_law_flow [.ix (.var 0) (.lit (.int 0)), .var 1, .var 5]),
    .app 2 (.var 1), .asg 3 (.op .add (.var 3) (.op .mul (.var 6) (.bi .int [.op .eq (.ix (.var 5) (.lit (.int 0))) (.lit (.str [102, 105, 108, 108]))]))),
    .asg 4 (.op .add (.var 4) (.op .mul (.var 6) (.bi .int [.op .eq (.ix (.var 5) (.lit (.int 0))) (.lit (.str [116, 105, 112]))])))], .frz [2],
    .ret (.and_ (.op .eq (.call i_volumes [.var 0]) (.var 2)) (.op .eq (.call i_water [.var 0]) (.tup [.var 3, .var 4])))]
def d_law_water_right : Fn := ⟨1, 7, false, b_law_water_right⟩
def b_law_k01 : List St := [
    .for_ (.nm 1) .rng [.bi .max2 [.lit (.int 4), .bi .min2 [.lit (.int 10), .op .add (.bi .len [.var 0]) (.lit (.int 3))]]] [.cel 2 (.call i_law_sieve [.var 0,
    .var 1]), .asg 3 (.call i_law_way [.var 2, .call i_law_vessels [.var 2, .lit (.int 1)]]),
    .ite (.or_ (.not (.call i_law_is_way [.var 3])) (.not (.call i_law_water_right [.var 3]))) [.ret (.lit (.bl false))] [],
    .for_ (.nm 4) .rng [.lit (.int 12)] [.asg 5 (.call i_law_some [.var 2, .lst [.var 3, .var 3, .call i_law_dirt [.var 2,
    .bi .len [.ix (.var 3) (.lit (.int 0))]]]]), .asg 6 (.lst [.var 5, .call i_law_bent_k01 [.var 2, .var 5], .call i_law_bent_k01 [.var 2,
    .call i_law_bent_k01 [.var 2, .var 5]]]), .ite (.not (.call i_law_right_k01 [.var 3, .call i_law_some [.var 2,
    .op .add (.var 6) (.lst [.call i_law_anything [.var 2, .lit (.int 2)]])]])) [.ret (.lit (.bl false))] []]], .par [(false, 7), (false, 8)] [.tup [.lit (.int 5),
    .lit (.int 1), .lit (.int 1)], .tup [.tup [.tup [.lit (.int 5), .lit (.int 1), .lit (.int 1)]], .tup [.tup [.lit (.str [102, 105, 108, 108]), .lit (.int 0),
    .lit (.int 4)], .tup [.lit (.str [116, 105, 112]), .lit (.int 0)]]]], .own 9 (.lst [.var 8, .tup [.op .mul (.tup [.var 7]) (.lit (.int 3)),
    .ix (.var 8) (.lit (.int 1))], .tup [.op .mul (.tup [.var 7]) (.lit (.int 4)), .ix (.var 8) (.lit (.int 1))], .tup [.tup [], .ix (.var 8) (.lit (.int 1))],
    .tup [.tup [.var 7], .tup []]]), .frz [9], .own 9 (.op .add (.var 9) (.lst [.tup [.tup [.var 7], .op .mul (.tup [.tup [.lit (.str [116, 105, 112]),
    .lit (.int 0)]]) (.lit (.int 8))], .tup [.tup [.var 7], .op .mul (.tup [.tup [.lit (.str [116, 105, 112]), .lit (.int 0)]]) (.lit (.int 9))],
    .tup [.tup [.var 7], .tup [.tup [.lit (.str [102, 105, 108, 108]), .lit (.int 0), .lit (.int 4)]]]])), .frz [9],
    .own 9 (.op .add (.var 9) (.lst [.tup [.tup [.var 7], .tup [.tup [.lit (.str [116, 105, 112]), .lit (.int 1)]]], .tup [.tup [.tup [.lit (.int 13),
    .lit (.int 1), .lit (.int 1)]], .ix (.var 8) (.lit (.int 1))], .tup [.tup [.tup [.lit (.int 2), .lit (.int 2), .lit (.int 2)]],
    .ix (.var 8) (.lit (.int 1))]])), .frz [9], .own 9 (.op .add (.var 9) (.lst [.tup [.tup [.tup [.lit (.int 12), .lit (.int 11), .lit (.int 12)]],
    .tup [.tup [.lit (.str [116, 105, 112]), .lit (.int 0)], .tup [.lit (.str [102, 105, 108, 108]), .lit (.int 0), .lit (.int 12)]]],
    .tup [.tup [.tup [.lit (.int 5), .lit (.int 1), .lit (.int 0)]], .ix (.var 8) (.lit (.int 1))]])), .frz [9],
    .own 9 (.op .add (.var 9) (.lst [.tup [.tup [.var 7, .var 7], .tup [.tup [.lit (.str [112, 111, 117, 114]), .lit (.int 0), .lit (.int 0), .lit (.int 1)]]],
    .tup [.tup [.var 7, .var 7], .tup [.tup [.lit (.str [112, 111, 117, 114]), .lit (.int 0), .lit (.int 1), .lit (.int 12)]]]])), .app 9 (.tup [.tup [.var 7,
    .var 7], .tup [.tup [.lit (.str [112, 111, 117, 114]), .lit (.int 0), .lit (.int 1), .lit (.int 13)]]]), .frz [9],
    .ret (.op .eq (.comp (.var 5) (.nm 5) .seq [.var 9] [.not (.call i_law_right_k01 [.var 8, .var 5])]) (.lst []))]
def d_law_k01 : Fn := ⟨1, 10, false, b_law_k01⟩
def glo : List (List Nat × D) := [([70, 73, 76, 76], .str [102, 105, 108, 108]),
    ([80, 79, 85, 82], .str [112, 111, 117, 114]),
    ([84, 73, 80], .str [116, 105, 112]),
    ([77, 79, 83, 84, 95, 80, 65, 82, 84], .int 100000000000000000000000000000000000000)]
def cls : List (Nat × PySem.Str) := [(1, "InvalidWay")]
def rows : List Rw := [⟨0, "common", ["one", "other"], ["one", "other"], d_common, 4⟩,
    ⟨1, "lowest", ["top", "below"], ["top", "below", "part"], d_lowest, 5⟩,
    ⟨2, "is_integer", ["value"], ["value"], d_is_integer, 11⟩,
    ⟨3, "is_from", ["value", "low", "high"], ["value", "low", "high"], d_is_from, 12⟩,
    ⟨4, "is_any_fraction", ["value"], ["value"], d_is_any_fraction, 13⟩,
    ⟨5, "is_amount", ["value"], ["value"], d_is_amount, 14⟩,
    ⟨6, "is_vessel", ["value"], ["value"], d_is_vessel, 15⟩,
    ⟨7, "is_step", ["many", "value"], ["many", "value"], d_is_step, 16⟩,
    ⟨8, "with_part", ["some", "place", "part"], ["some", "place", "part"], d_with_part, 17⟩,
    ⟨9, "moved_by", ["vessels", "waters", "step"], ["vessels", "waters", "step", "room", "film", "begin", "here"], d_moved_by, 18⟩,
    ⟨10, "waters_behind", ["vessels", "waters", "step"], ["vessels", "waters", "step", "many", "found"], d_waters_behind, 19⟩,
    ⟨11, "begins", ["vessels"], ["vessels", "vessel"], d_begins, 20⟩,
    ⟨12, "all_waters", ["way"], ["way", "vessels", "steps", "found", "step"], d_all_waters, 21⟩,
    ⟨13, "is_good", ["value"], ["value", "vessel", "step"], d_is_good, 22⟩,
    ⟨14, "is_dirt_for", ["many", "value"], ["many", "value", "part"], d_is_dirt_for, 23⟩,
    ⟨15, "need_way", ["value"], ["value"], d_need_way, 24⟩,
    ⟨16, "is_way", ["value"], ["value"], d_is_way, 25⟩,
    ⟨17, "is_dirt", ["way", "value"], ["way", "value"], d_is_dirt, 26⟩,
    ⟨18, "volumes", ["way"], ["way"], d_volumes, 27⟩,
    ⟨19, "water", ["way"], ["way", "vessels", "steps", "waters", "clean", "gone", "step", "many"], d_water, 28⟩,
    ⟨20, "_law_sieve", ["script", "k"], ["script", "k", "cell"], d_law_sieve, 30⟩,
    ⟨21, "_law_sift", ["sieve", "wide"], ["sieve", "wide", "found", "stirred"], d_law_sift, 31⟩,
    ⟨22, "_law_some", ["sieve", "things"], ["sieve", "things"], d_law_some, 32⟩,
    ⟨23, "_law_low", ["top", "below"], ["top", "below", "here", "rest"], d_law_low, 33⟩,
    ⟨24, "_law_vessels", ["sieve", "least"], ["sieve", "least", "found", "turn", "room", "thin", "more"], d_law_vessels, 34⟩,
    ⟨25, "_law_step", ["sieve", "wide"], ["sieve", "wide", "at", "kind", "size", "there"], d_law_step, 35⟩,
    ⟨26, "_law_flow", ["vessels", "waters", "step"], ["vessels", "waters", "step", "at", "found", "size", "there"], d_law_flow, 36⟩,
    ⟨27, "_law_start", ["vessels"], ["vessels", "one"], d_law_start, 37⟩,
    ⟨28, "_law_way", ["sieve", "vessels"], ["sieve", "vessels", "steps", "waters", "turn", "step", "at", "last", "lack"], d_law_way, 38⟩,
    ⟨29, "_law_dirt", ["sieve", "wide"], ["sieve", "wide", "found", "turn", "top"], d_law_dirt, 39⟩,
    ⟨30, "_law_int", ["thing", "low", "high"], ["thing", "low", "high"], d_law_int, 40⟩,
    ⟨31, "_law_is_vessel", ["thing"], ["thing"], d_law_is_vessel, 41⟩,
    ⟨32, "_law_is_step", ["thing", "wide"], ["thing", "wide", "spots", "at"], d_law_is_step, 42⟩,
    ⟨33, "_law_is_way", ["thing"], ["thing", "one", "step", "waters"], d_law_is_way, 43⟩,
    ⟨34, "_law_is_dirt", ["thing", "wide"], ["thing", "wide", "part"], d_law_is_dirt, 44⟩,
    ⟨35, "_law_anything", ["sieve", "depth"], ["sieve", "depth", "things", "items", "turn"], d_law_anything, 45⟩,
    ⟨36, "_law_bent", ["sieve", "thing"], ["sieve", "thing", "things", "at", "kind"], d_law_bent_k01, 46⟩,
    ⟨37, "_law_right", ["way_so", "thing"], ["way_so", "thing", "found", "one"], d_law_right_k01, 47⟩,
    ⟨38, "_law_water_right", ["way_so"], ["way_so", "waters", "found", "clean", "gone", "step", "size"], d_law_water_right, 48⟩,
    ⟨39, "law", ["script"], ["script", "k", "sieve", "told_so", "turn", "thing", "things", "cup", "plain", "rows"], d_law_k01, 49⟩]
end Rz
namespace Rz
open PySem PySem.Spec PyProof.Rows L2

abbrev prog : Program := PySem.Challenge.pw_anyrinses_k01_ways_and_dirt_recognized
abbrev R0 : PySem.W.OpenRow := PySem.W.OpenLaw.row PySem.Challenge.rw_anyrinses_k01_ways_and_dirt_recognized
def fnL : List He.DefD := rows.map (mkD prog)
def faL : List He.Fa := faOf rows cls
abbrev hk : PySem.W.Hook := hookR 4 faL fnL (exOf glo)
def ob (s : PySem.W.SharedT) : He.AlD := obsRG 4 faL fnL (exOf glo) (HandSHeadRun.getT s)
theorem ob_eq (s : PySem.W.SharedT) : ob s = hk.obs s.abs := obsRG_eq (HandSHeadRun.getT_eq s)
def loose : List Str := (["RinseError", "InvalidWay", "common", "lowest", "FILL", "POUR", "TIP", "MOST_PART", "is_integer", "is_from", "is_any_fraction", "is_amount", "is_vessel", "is_step", "with_part", "moved_by", "waters_behind", "begins", "all_waters", "is_good", "is_dirt_for", "need_way", "is_way", "is_dirt", "volumes", "water", "_law_sieve", "_law_sift", "_law_some", "_law_low"] : List Str) ++ (["_law_vessels", "_law_step", "_law_flow", "_law_start", "_law_way", "_law_dirt", "_law_int", "_law_is_vessel", "_law_is_step", "_law_is_way", "_law_is_dirt", "_law_anything", "_law_bent", "_law_right", "_law_water_right"] : List Str)
theorem run (w : World) : HandSHeadRun.RunEq R0 (PySem.W.view R0.prog [49]) hk ob 4000 loose w := by
  intro os
  kernel_rfl

end Rz
/-! RzS1 -/
set_option Elab.async false
set_option linter.all false
set_option maxRecDepth 100000
set_option maxHeartbeats 4000000
namespace Rz
open PySem PySem.Spec PyProof.Rows L2

abbrev Bad := Addr → Prop
/-- what the row gives: the written part, where the defs stand -/
structure Inf where
  P : Program
  w : World
  K : PySem.W.Frag
  mg : Str → Option Value
  base : Heap
  T : Nat → Option Fn
  nam : Nat → Str
  fad : Nat → Addr
  fd : Nat → FuncData
  ps : Nat → List Str
  glo : List (List Nat × D)
  cad : Nat → Addr
  cls : List (Nat × Str)

/-- a list that nobody changes: locked, or of the written part -/
def Ro (K : PySem.W.Frag) (H : Hp) (a : Addr) (xs : List V) : Prop :=
  (∃ o, H a = some (.frz o (.lst xs))) ∨
    ∃ (o : Obj) (its : Array Value) (n : Nat), K.lookup a = some o ∧ o.cls = .type "list" ∧ o.dict = none ∧ o.data = .seq its n ∧ its.size ≤ sizeLine ∧ Vals xs its.toList
theorem Ro.seq {K : PySem.W.Frag} {H : Hp} {a : Addr} {xs : List V} (h : Ro K H a xs) : SqL K H a xs := h.elim (fun z => .inl (.inr z)) .inr
def keyD : Key → D
  | .inl i => .int i
  | .inr x => .str x.cps.toList

mutual
/-- the value v is the data d; no mutable thing at a bad address is within -/
inductive Rep (S : Inf) (H : Hp) (B : Bad) (Γ : List Addr) : V → D → Prop
  | non : Rep S H B Γ .non .non
  | bl (b : Bool) : Rep S H B Γ (.bl b) (.bl b)
  | int (i : Int) : Rep S H B Γ (.int i) (.int i)
  | str (l : List Nat) : Rep S H B Γ (.str (sOf l)) (.str l)
  | tup {a : Addr} {vs : List V} {ds : List D} : SqT S.K H a vs → Reps S H B Γ vs ds → Rep S H B Γ (.ref a) (.tup ds)
  | lst {a : Addr} {vs : List V} {ds : List D} : H a = some (.lst vs) → ¬ B a → Reps S H B Γ vs ds → Rep S H B Γ (.ref a) (.lst ds)
  | dic {a : Addr} {kvs : List (Key × V)} {ks vs : List D} : H a = some (.dK kvs) → ¬ B a → kvs.map (fun p => keyD p.1) = ks → Reps S H B Γ (kvs.map (·.2)) vs → Rep S H B Γ (.ref a) (.dic ks vs)
  | fn (f : Nat) : Rep S H B Γ (.ref (S.fad f)) (.fn f)
  | mref {n : Nat} {a : Addr} : Γ[n]? = some a → Rep S H B Γ (.ref a) (.mref n)
  | scr {a : Addr} {vs : List V} {ds : List D} : Ro S.K H a vs → Reps S H B Γ vs ds → Rep S H B Γ (.ref a) (.scr ds)
inductive Reps (S : Inf) (H : Hp) (B : Bad) (Γ : List Addr) : List V → List D → Prop
  | nil : Reps S H B Γ [] []
  | cons {v : V} {vs : List V} {d : D} {ds : List D} : Rep S H B Γ v d → Reps S H B Γ vs ds → Reps S H B Γ (v :: vs) (d :: ds)
end

/-- what is bad is a list or a dict of ours -/
structure BadOk (H : Hp) (B : Bad) (Γ : List Addr) : Prop where
  kin : ∀ a, B a → (∃ xs, H a = some (.lst xs)) ∨ ∃ kvs, H a = some (.dK kvs)
  cell : ∀ a, a ∈ Γ → B a
theorem BadOk.live {H : Hp} {B : Bad} {Γ : List Addr} (h : BadOk H B Γ) {a : Addr} (b : B a) : H a ≠ none := by
  rcases h.kin a b with ⟨_, e⟩ | ⟨_, e⟩ <;> (rw [e]; exact fun z => nomatch z)
theorem BadOk.notT {H : Hp} {B : Bad} {Γ : List Addr} (h : BadOk H B Γ) {a : Addr} {vs : List V} (e : H a = some (.tup vs)) : ¬ B a := fun b => by
  rcases h.kin a b with ⟨_, q⟩ | ⟨_, q⟩ <;> (rw [e] at q; cases q)
theorem BadOk.notF {H : Hp} {B : Bad} {Γ : List Addr} (h : BadOk H B Γ) {a : Addr} {o : Obj} {u : HO} (e : H a = some (.frz o u)) : ¬ B a := fun b => by
  rcases h.kin a b with ⟨_, q⟩ | ⟨_, q⟩ <;> (rw [e] at q; cases q)

/-- on from H: all but the cells stands, what is bad stays so, new things may be bad or cells -/
structure Step (H : Hp) (B : Bad) (Γ : List Addr) (H' : Hp) (B' : Bad) (Γ' : List Addr) : Prop where
  ext : ∀ b o, H b = some o → b ∉ Γ → H' b = some o
  bsub : ∀ b, B b → B' b
  bnew : ∀ b, B' b → B b ∨ H b = none
  gpre : ∀ (n : Nat) (a : Addr), Γ[n]? = some a → Γ'[n]? = some a
  gnew : ∀ b, b ∈ Γ' → b ∈ Γ ∨ H b = none
  live : ∀ b, H b ≠ none → H' b ≠ none
theorem Step.refl {H : Hp} {B : Bad} {Γ : List Addr} : Step H B Γ H B Γ := ⟨fun _ _ e _ => e, fun _ b => b, fun _ b => .inl b, fun _ _ e => e, fun _ b => .inl b, fun _ h => h⟩
theorem Step.back {H : Hp} {B : Bad} {Γ : List Addr} {H' : Hp} {B' : Bad} {Γ' : List Addr} (s : Step H B Γ H' B' Γ') {b : Addr} (h : H' b = none) : H b = none := by
  cases e : H b with
  | none => rfl
  | some o => exact absurd h (s.live b (by rw [e]; exact fun z => nomatch z))
theorem Step.trans {H H1 H2 : Hp} {B B1 B2 : Bad} {Γ Γ1 Γ2 : List Addr} (a : Step H B Γ H1 B1 Γ1) (b : Step H1 B1 Γ1 H2 B2 Γ2) : Step H B Γ H2 B2 Γ2 where
  ext := fun c o e n => b.ext c o (a.ext c o e n) fun z => by
    rcases a.gnew c z with z | z
    · exact n z
    · rw [e] at z; cases z
  bsub := fun c h => b.bsub c (a.bsub c h)
  bnew := fun c h => by
    rcases b.bnew c h with z | z
    · exact a.bnew c z
    · exact .inr (a.back z)
  gpre := fun n c e => b.gpre n c (a.gpre n c e)
  gnew := fun c h => by
    rcases b.gnew c h with z | z
    · exact a.gnew c z
    · exact .inr (a.back z)
  live := fun c h => b.live c (a.live c h)
/-- a new thing is laid -/
theorem Step.laid {H : Hp} {B : Bad} {Γ : List Addr} {p : Addr} {o : HO} (h : H p = none) : Step H B Γ (upd H p o) B Γ where
  ext := fun b u e _ => by rw [upd_ne (ne_of_none e h)]; exact e
  bsub := fun _ b => b
  bnew := fun _ b => .inl b
  gpre := fun _ _ e => e
  gnew := fun _ b => .inl b
  live := fun b n => by
    by_cases e : b = p
    · subst e; rw [upd_same]; exact fun z => nomatch z
    · rw [upd_ne e]; exact n
theorem BadOk.laid {H : Hp} {B : Bad} {Γ : List Addr} {p : Addr} {o : HO} (h : BadOk H B Γ) (hp : H p = none) : BadOk (upd H p o) B Γ where
  kin := fun a b => by
    have e : a ≠ p := fun z => h.live b (by rw [z]; exact hp)
    rw [upd_ne e]; exact h.kin a b
  cell := h.cell

section
variable {S : Inf} {H H' : Hp} {B B' : Bad} {Γ Γ' : List Addr}
theorem seqT_step {a : Addr} {vs : List V} (ok : BadOk H B Γ) (ext : ∀ b o, H b = some o → b ∉ Γ → H' b = some o) (h : SqT S.K H a vs) : SqT S.K H' a vs := by
  rcases h with (h | ⟨o, h⟩) | h
  · exact .inl (.inl (ext _ _ h fun z => ok.notT h (ok.cell _ z)))
  · exact .inl (.inr ⟨o, ext _ _ h fun z => ok.notF h (ok.cell _ z)⟩)
  · exact .inr h
theorem rd_step {a : Addr} {u : HO} (ok : BadOk H B Γ) (ext : ∀ b o, H b = some o → b ∉ Γ → H' b = some o) (nb : ¬ B a) (h : Rd H a u) : Rd H' a u := by
  rcases h with h | ⟨o, h⟩
  · exact .inl (ext _ _ h fun z => nb (ok.cell _ z))
  · exact .inr ⟨o, ext _ _ h fun z => nb (ok.cell _ z)⟩
theorem rd_live {a : Addr} {u : HO} (h : Rd H a u) : H a ≠ none := by
  rcases h with h | ⟨o, h⟩ <;> (rw [h]; exact fun z => nomatch z)
mutual
theorem Rep.step (ok : BadOk H B Γ) (s : Step H B Γ H' B' Γ') : ∀ {v : V} {d : D}, Rep S H B Γ v d → Rep S H' B' Γ' v d
  | _, _, .non => .non
  | _, _, .bl b => .bl b
  | _, _, .int i => .int i
  | _, _, .str l => .str l
  | _, _, .tup h r => .tup (seqT_step ok s.ext h) (Reps.step ok s r)
  | _, _, .lst h nb r => .lst (s.ext _ _ h fun z => nb (ok.cell _ z)) (fun z => (s.bnew _ z).elim nb (by rw [h]; exact fun z => nomatch z)) (Reps.step ok s r)
  | _, _, .scr h r => .scr (h.elim (fun ⟨o, h⟩ => .inl ⟨o, s.ext _ _ h fun z => ok.notF h (ok.cell _ z)⟩) .inr) (Reps.step ok s r)
  | _, _, .dic h nb e r => .dic (s.ext _ _ h fun z => nb (ok.cell _ z)) (fun z => (s.bnew _ z).elim nb (by rw [h]; exact fun z => nomatch z)) e (Reps.step ok s r)
  | _, _, .fn f => .fn f
  | _, _, .mref h => .mref (s.gpre _ _ h)
theorem Reps.step (ok : BadOk H B Γ) (s : Step H B Γ H' B' Γ') : ∀ {vs : List V} {ds : List D}, Reps S H B Γ vs ds → Reps S H' B' Γ' vs ds
  | _, _, .nil => .nil
  | _, _, .cons h r => .cons (Rep.step ok s h) (Reps.step ok s r)
end
mutual
/-- a mutable thing at a bad address is rewritten: what does not go through it stands -/
theorem Rep.rew (ok : BadOk H B Γ) (ext : ∀ b o, H b = some o → ¬ B b → H' b = some o) : ∀ {v : V} {d : D}, Rep S H B Γ v d → Rep S H' B Γ v d
  | _, _, .non => .non
  | _, _, .bl b => .bl b
  | _, _, .int i => .int i
  | _, _, .str l => .str l
  | _, _, .tup h r => .tup (by
      rcases h with (h | ⟨o, h⟩) | h
      · exact .inl (.inl (ext _ _ h (ok.notT h)))
      · exact .inl (.inr ⟨o, ext _ _ h (ok.notF h)⟩)
      · exact .inr h) (Reps.rew ok ext r)
  | _, _, .lst h nb r => .lst (ext _ _ h nb) nb (Reps.rew ok ext r)
  | _, _, .scr h r => .scr (h.elim (fun ⟨o, h⟩ => .inl ⟨o, ext _ _ h (ok.notF h)⟩) .inr) (Reps.rew ok ext r)
  | _, _, .dic h nb e r => .dic (ext _ _ h nb) nb e (Reps.rew ok ext r)
  | _, _, .fn f => .fn f
  | _, _, .mref h => .mref h
theorem Reps.rew (ok : BadOk H B Γ) (ext : ∀ b o, H b = some o → ¬ B b → H' b = some o) : ∀ {vs : List V} {ds : List D}, Reps S H B Γ vs ds → Reps S H' B Γ vs ds
  | _, _, .nil => .nil
  | _, _, .cons h r => .cons (Rep.rew ok ext h) (Reps.rew ok ext r)
end
mutual
/-- less is bad -/
theorem Rep.less (hb : ∀ a, B' a → B a) : ∀ {v : V} {d : D}, Rep S H B Γ v d → Rep S H B' Γ v d
  | _, _, .non => .non
  | _, _, .bl b => .bl b
  | _, _, .int i => .int i
  | _, _, .str l => .str l
  | _, _, .tup h r => .tup h (Reps.less hb r)
  | _, _, .lst h nb r => .lst h (fun z => nb (hb _ z)) (Reps.less hb r)
  | _, _, .scr h r => .scr h (Reps.less hb r)
  | _, _, .dic h nb e r => .dic h (fun z => nb (hb _ z)) e (Reps.less hb r)
  | _, _, .fn f => .fn f
  | _, _, .mref h => .mref h
theorem Reps.less (hb : ∀ a, B' a → B a) : ∀ {vs : List V} {ds : List D}, Reps S H B Γ vs ds → Reps S H B' Γ vs ds
  | _, _, .nil => .nil
  | _, _, .cons h r => .cons (Rep.less hb h) (Reps.less hb r)
end
mutual
/-- an address that does not stand is in nothing: it may become bad -/
theorem Rep.more {p : Addr} (hp : H p = none) : ∀ {v : V} {d : D}, Rep S H B Γ v d → Rep S H (fun b => B b ∨ b = p) Γ v d
  | _, _, .non => .non
  | _, _, .bl b => .bl b
  | _, _, .int i => .int i
  | _, _, .str l => .str l
  | _, _, .tup h r => .tup h (Reps.more hp r)
  | _, _, .lst h nb r => .lst h (fun z => z.elim nb fun e => by rw [e, hp] at h; cases h) (Reps.more hp r)
  | _, _, .scr h r => .scr h (Reps.more hp r)
  | _, _, .dic h nb e r => .dic h (fun z => z.elim nb fun q => by rw [q, hp] at h; cases h) e (Reps.more hp r)
  | _, _, .fn f => .fn f
  | _, _, .mref h => .mref h
theorem Reps.more {p : Addr} (hp : H p = none) : ∀ {vs : List V} {ds : List D}, Reps S H B Γ vs ds → Reps S H (fun b => B b ∨ b = p) Γ vs ds
  | _, _, .nil => .nil
  | _, _, .cons h r => .cons (Rep.more hp h) (Reps.more hp r)
end
mutual
/-- without a list in it, no bad address is in it -/
theorem Rep.noL (hb : True) : ∀ {v : V} {d : D}, Rep S H B Γ v d → D.noL d = true → Rep S H B' Γ v d
  | _, _, .non, _ => .non
  | _, _, .bl b, _ => .bl b
  | _, _, .int i, _ => .int i
  | _, _, .str l, _ => .str l
  | _, _, .tup h r, e => .tup h (Reps.noL hb r (by simpa [D.noL] using e))
  | _, _, .lst _ _ _, e => by simp [D.noL] at e
  | _, _, .scr _ _, e => by simp [D.noL] at e
  | _, _, .dic _ _ _ _, e => by simp [D.noL] at e
  | _, _, .fn f, _ => .fn f
  | _, _, .mref h, _ => .mref h
theorem Reps.noL (hb : True) : ∀ {vs : List V} {ds : List D}, Reps S H B Γ vs ds → D.noLs ds = true → Reps S H B' Γ vs ds
  | _, _, .nil, _ => .nil
  | _, _, .cons h r, e => by
    have e' := e
    rw [D.noLs, Bool.and_eq_true] at e'
    exact .cons (Rep.noL hb h e'.1) (Reps.noL hb r e'.2)
end
mutual
/-- a new thing is laid at p: p is in nothing that stood -/
theorem Rep.more' {p : Addr} {o : HO} (hp : H p = none) : ∀ {v : V} {d : D}, Rep S H B Γ v d → Rep S (upd H p o) (fun b => B b ∨ b = p) Γ v d
  | _, _, .non => .non
  | _, _, .bl b => .bl b
  | _, _, .int i => .int i
  | _, _, .str l => .str l
  | _, _, .tup h r => .tup (by
      rcases h with (h | ⟨o, h⟩) | h
      · exact .inl (.inl (by rw [upd_ne (ne_of_none h hp)]; exact h))
      · exact .inl (.inr ⟨o, by rw [upd_ne (ne_of_none h hp)]; exact h⟩)
      · exact .inr h) (Reps.more' hp r)
  | _, _, .lst h nb r => .lst (by rw [upd_ne (ne_of_none h hp)]; exact h) (fun z => z.elim nb fun e => by rw [e, hp] at h; cases h) (Reps.more' hp r)
  | _, _, .scr h r => .scr (h.elim (fun ⟨o, h⟩ => .inl ⟨o, by rw [upd_ne (ne_of_none h hp)]; exact h⟩) .inr) (Reps.more' hp r)
  | _, _, .dic h nb e r => .dic (by rw [upd_ne (ne_of_none h hp)]; exact h) (fun z => z.elim nb fun q => by rw [q, hp] at h; cases h) e (Reps.more' hp r)
  | _, _, .fn f => .fn f
  | _, _, .mref h => .mref h
theorem Reps.more' {p : Addr} {o : HO} (hp : H p = none) : ∀ {vs : List V} {ds : List D}, Reps S H B Γ vs ds → Reps S (upd H p o) (fun b => B b ∨ b = p) Γ vs ds
  | _, _, .nil => .nil
  | _, _, .cons h r => .cons (Rep.more' hp h) (Reps.more' hp r)
end
theorem Reps.length : ∀ {vs : List V} {ds : List D}, Reps S H B Γ vs ds → vs.length = ds.length
  | _, _, .nil => rfl
  | _, _, .cons _ r => by rw [List.length_cons, List.length_cons, r.length]
theorem Reps.get : ∀ {vs : List V} {ds : List D} {i : Nat} {d : D}, Reps S H B Γ vs ds → ds[i]? = some d → ∃ v, vs[i]? = some v ∧ Rep S H B Γ v d
  | _, _, _, _, .nil, e => by simp at e
  | _, _, 0, _, .cons h _, e => by simp at e; subst e; exact ⟨_, rfl, h⟩
  | _, _, i + 1, _, .cons _ r, e => by
    obtain ⟨v, h1, h2⟩ := Reps.get (i := i) r (by simpa using e)
    exact ⟨v, by simpa using h1, h2⟩
theorem Reps.getV : ∀ {vs : List V} {ds : List D} {i : Nat} {v : V}, Reps S H B Γ vs ds → vs[i]? = some v → ∃ d, ds[i]? = some d ∧ Rep S H B Γ v d
  | _, _, _, _, .nil, e => by simp at e
  | _, _, 0, _, .cons h _, e => by simp at e; subst e; exact ⟨_, rfl, h⟩
  | _, _, i + 1, _, .cons _ r, e => by
    obtain ⟨v, h1, h2⟩ := Reps.getV (i := i) r (by simpa using e)
    exact ⟨v, by simpa using h1, h2⟩
theorem Reps.append : ∀ {vs ws : List V} {ds es : List D}, Reps S H B Γ vs ds → Reps S H B Γ ws es → Reps S H B Γ (vs ++ ws) (ds ++ es)
  | _, _, _, _, .nil, r => r
  | _, _, _, _, .cons h t, r => .cons h (Reps.append t r)
theorem Reps.take : ∀ {vs : List V} {ds : List D} (n : Nat), Reps S H B Γ vs ds → Reps S H B Γ (vs.take n) (ds.take n)
  | _, _, 0, _ => by simp; exact .nil
  | _, _, _ + 1, .nil => by simp; exact .nil
  | _, _, n + 1, .cons h r => by simp; exact .cons h (Reps.take n r)
theorem Reps.drop : ∀ {vs : List V} {ds : List D} (n : Nat), Reps S H B Γ vs ds → Reps S H B Γ (vs.drop n) (ds.drop n)
  | _, _, 0, r => r
  | _, _, _ + 1, .nil => by simp; exact .nil
  | _, _, n + 1, .cons _ r => by simp; exact Reps.drop n r
theorem Reps.set : ∀ {vs : List V} {ds : List D} {v : V} {d : D} (n : Nat), Rep S H B Γ v d → Reps S H B Γ vs ds → Reps S H B Γ (vs.set n v) (ds.set n d)
  | _, _, _, _, _, _, .nil => .nil
  | _, _, _, _, 0, q, .cons _ r => .cons q r
  | _, _, _, _, n + 1, q, .cons h r => .cons h (Reps.set n q r)
theorem Reps.rep {vs : List V} {ds : List D} (r : Reps S H B Γ vs ds) : ∀ k : Nat, Reps S H B Γ (List.replicate k vs).flatten (List.replicate k ds).flatten
  | 0 => by simp; exact .nil
  | k + 1 => by rw [List.replicate_succ, List.replicate_succ, List.flatten_cons, List.flatten_cons]; exact r.append (r.rep k)
theorem Reps.reverse : ∀ {vs : List V} {ds : List D}, Reps S H B Γ vs ds → Reps S H B Γ vs.reverse ds.reverse
  | _, _, .nil => .nil
  | _, _, .cons h r => by rw [List.reverse_cons, List.reverse_cons]; exact r.reverse.append (.cons h .nil)
end
end Rz

/-! RzS2 -/
set_option Elab.async false
set_option linter.all false
set_option maxRecDepth 100000
set_option maxHeartbeats 4000000
namespace Rz
open PySem PySem.Spec PyProof.Rows L2

/-! ### cells, slots -/
structure Cells (S : Inf) (H : Hp) (g : Gs) (B : Bad) (Γ : List Addr) : Prop where
  ok : BadOk H B Γ
  len : Γ.length = g.length
  nd : Γ.Nodup
  nl : ∀ (n : Nat) (ds : List D), g[n]? = some ds → D.noLs ds = true
  at_ : ∀ (n : Nat) (ds : List D), g[n]? = some ds → ∃ a vs, Γ[n]? = some a ∧ H a = some (.lst vs) ∧ Reps S H B Γ vs ds
def OwnAt (S : Inf) (H : Hp) (B : Bad) (Γ : List Addr) (a : Addr) : D → Prop
  | .lst ds => ∃ vs, H a = some (.lst vs) ∧ Reps S H B Γ vs ds
  | .dic ks ws => ∃ kvs : List (Key × V), H a = some (.dK kvs) ∧ kvs.map (fun p => keyD p.1) = ks ∧ Reps S H B Γ (kvs.map (·.2)) ws
  | _ => False
def SlotOk (S : Inf) (H : Hp) (B : Bad) (Γ : List Addr) (H0 : Hp) (v : Option (Option V)) : Sl → Prop
  | .u => True
  | .p d => ∃ x, v = some (some x) ∧ Rep S H B Γ x d
  | .o d => ∃ a, v = some (some (.ref a)) ∧ B a ∧ a ∉ Γ ∧ H0 a = none ∧ OwnAt S H B Γ a d
def isO : Sl → Prop
  | .o _ => True
  | _ => False
structure Slots (S : Inf) (H : Hp) (B : Bad) (Γ : List Addr) (H0 : Hp) (σ : L2.St) (env : Env) : Prop where
  len : σ.length = env.length
  at_ : ∀ i, SlotOk S H B Γ H0 (σ[i]?) (getS env i)
  apart : ∀ i j a, i ≠ j → isO (getS env i) → isO (getS env j) → σ[i]? = some (some (.ref a)) → σ[j]? = some (some (.ref a)) → False

section
variable {S : Inf} {H H' H0 : Hp} {B B' : Bad} {Γ Γ' : List Addr} {g g' : Gs} {σ : L2.St} {env : Env}
theorem OwnAt.live {a : Addr} {d : D} (h : OwnAt S H B Γ a d) : H a ≠ none := by
  cases d with
  | lst ds => obtain ⟨_, e, _⟩ := h; rw [e]; exact fun z => nomatch z
  | dic ks ws => obtain ⟨_, e, _⟩ := h; rw [e]; exact fun z => nomatch z
  | _ => exact h.elim
theorem OwnAt.step (ok : BadOk H B Γ) (s : Step H B Γ H' B' Γ') {a : Addr} {d : D} (na : a ∉ Γ) (h : OwnAt S H B Γ a d) : OwnAt S H' B' Γ' a d := by
  cases d with
  | lst ds => obtain ⟨vs, e, r⟩ := h; exact ⟨vs, s.ext _ _ e na, r.step ok s⟩
  | dic ks ws => obtain ⟨kvs, e, q, r⟩ := h; exact ⟨kvs, s.ext _ _ e na, q, r.step ok s⟩
  | _ => exact h.elim
theorem SlotOk.step (ok : BadOk H B Γ) (s : Step H B Γ H' B' Γ') {v : Option (Option V)} {sl : Sl} (h : SlotOk S H B Γ H0 v sl) : SlotOk S H' B' Γ' H0 v sl := by
  cases sl with
  | u => trivial
  | p d => obtain ⟨x, e, r⟩ := h; exact ⟨x, e, r.step ok s⟩
  | o d =>
    obtain ⟨a, e, b, n, z, r⟩ := h
    refine ⟨a, e, s.bsub _ b, fun q => ?_, z, r.step ok s n⟩
    rcases s.gnew a q with q | q
    · exact n q
    · exact r.live q
theorem Slots.step (ok : BadOk H B Γ) (s : Step H B Γ H' B' Γ') (h : Slots S H B Γ H0 σ env) : Slots S H' B' Γ' H0 σ env :=
  ⟨h.len, fun i => (h.at_ i).step ok s, h.apart⟩
theorem Same.step (s : L2.Same H H') : Step H B Γ H' B Γ := ⟨fun b o e _ => s b o e, fun _ b => b, fun _ b => .inl b, fun _ _ e => e, fun _ b => .inl b, fun b n z => n (s.free z)⟩
theorem BadOk.same (h : BadOk H B Γ) (s : L2.Same H H') : BadOk H' B Γ :=
  ⟨fun a b => (h.kin a b).elim (fun ⟨x, e⟩ => .inl ⟨x, s _ _ e⟩) fun ⟨x, e⟩ => .inr ⟨x, s _ _ e⟩, h.cell⟩
theorem Cells.same (h : Cells S H g B Γ) (s : L2.Same H H') : Cells S H' g B Γ :=
  ⟨h.ok.same s, h.len, h.nd, h.nl, fun n ds e => let ⟨a, vs, e1, e2, r⟩ := h.at_ n ds e; ⟨a, vs, e1, s _ _ e2, r.step h.ok (Same.step s)⟩⟩
theorem same_laid {p : Addr} {o : HO} (h : H p = none) : L2.Same H (upd H p o) := fun b x e => by
  rw [upd_ne (ne_of_none e h)]
  exact e
end

/-! ### what comes out -/
/-- an exception of ours: its class, what it bears -/
def ExR (S : Inf) (H : Hp) (B : Bad) (Γ : List Addr) (c : Nat) (p : D) (cls : Value) (dd : Option Addr) : Prop :=
  cls = .ref (S.cad c) ∧ (S.cls.lookup c).isSome = true ∧ match p with
  | .non => dd = none
  | p => ∃ a v, dd = some a ∧ H a = some (.xd [("line", v)]) ∧ Rep S H B Γ v p
def Out {α : Type} (S : Inf) (σ : L2.St) (W : WX) (H : Hp) (B : Bad) (Γ : List Addr) (r : R α) (Q : α → Gs → Hp → Bad → List Addr → Prop) : Prop :=
  match r with
  | .ok a g' => ∀ H' B' Γ', Cells S H' g' B' Γ' → Step H B Γ H' B' Γ' → Q a g' H' B' Γ'
  | .exc c p g' => ∀ H' B' Γ' cls dd, Cells S H' g' B' Γ' → Step H B Γ H' B' Γ' → ExR S H' B' Γ' c p cls dd → W cls dd σ H'
  | .no => False
section
variable {S : Inf} {H H1 H' H0 : Hp} {B B1 B' : Bad} {Γ Γ1 Γ' : List Addr} {g g' : Gs} {σ : L2.St} {env : Env} {W : WX} {α β : Type}
theorem Out.imp {r : R α} {Q Q' : α → Gs → Hp → Bad → List Addr → Prop} (h : Out S σ W H B Γ r Q) (hq : ∀ a g' H' B' Γ', Cells S H' g' B' Γ' → Step H B Γ H' B' Γ' → Q a g' H' B' Γ' → Q' a g' H' B' Γ') : Out S σ W H B Γ r Q' := by
  cases r with
  | ok a g' => exact fun H' B' Γ' c s => hq _ _ _ _ _ c s (h H' B' Γ' c s)
  | exc c p g' => exact h
  | no => exact h
theorem Out.bind {r : R α} {f : α → Gs → R β} {Q : β → Gs → Hp → Bad → List Addr → Prop} (h : Out S σ W H B Γ (r.bind f) Q) :
    Out S σ W H B Γ r fun a g1 H1 B1 Γ1 => Out S σ W H1 B1 Γ1 (f a g1) Q := by
  cases r with
  | ok a g1 =>
    have h : Out S σ W H B Γ (f a g1) Q := h
    show ∀ H1 B1 Γ1, Cells S H1 g1 B1 Γ1 → Step H B Γ H1 B1 Γ1 → Out S σ W H1 B1 Γ1 (f a g1) Q
    intro H1 B1 Γ1 c s
    cases e : f a g1 with
    | ok b g2 => rw [e] at h; exact fun H2 B2 Γ2 c2 s2 => h H2 B2 Γ2 c2 (s.trans s2)
    | exc x p g2 => rw [e] at h; exact fun H2 B2 Γ2 cls dd c2 s2 => h H2 B2 Γ2 cls dd c2 (s.trans s2)
    | no => rw [e] at h; exact h
  | exc c p g' => exact h
  | no => exact h
theorem Out.of {o : Option α} {Q : α → Gs → Hp → Bad → List Addr → Prop} (h : Out S σ W H B Γ (R.of o g) Q) : ∃ a, o = some a ∧ ∀ H' B' Γ', Cells S H' g B' Γ' → Step H B Γ H' B' Γ' → Q a g H' B' Γ' := by
  cases o with
  | some a => exact ⟨a, rfl, h⟩
  | none => exact h.elim
end

/-! ### freshness -/
def isF (T : Nat → Option Fn) : Ex → Bool
  | .lst _ => true
  | .dic _ _ => true
  | .comp _ _ _ _ _ => true
  | .bi .list _ => true
  | .bi .lrange _ => true
  | .bi .lzip _ => true
  | .bi .dzip _ => true
  | .bi .sorted _ => true
  | .bi .split _ => true
  | .meth .split _ _ => true
  | .op .add _ _ => true
  | .op .mul _ _ => true
  | .sl _ _ _ => true
  | .ite _ a b => isF T a && isF T b
  | .call f _ => match T f with
    | some F => F.fr
    | none => false
  | _ => false
/-- a list or a dict that was not there at H -/
def FreshAt (S : Inf) (H H' : Hp) (B' : Bad) (Γ' : List Addr) (v : V) : D → Prop
  | .lst ds => ∃ p vs, v = .ref p ∧ H p = none ∧ ¬ B' p ∧ H' p = some (.lst vs) ∧ Reps S H' (fun b => B' b ∨ b = p) Γ' vs ds
  | .dic ks ws => ∃ (p : Addr) (kvs : List (Key × V)), v = .ref p ∧ H p = none ∧ ¬ B' p ∧ H' p = some (.dK kvs) ∧ kvs.map (fun p => keyD p.1) = ks ∧ Reps S H' (fun b => B' b ∨ b = p) Γ' (kvs.map (·.2)) ws
  | _ => True

/-! ### readings over data -/
section
variable (S : Inf) (H0 : Hp) (W : WX) (C : Nat → List D → Gs → R D)
def tD (e : Ex) : TE := fun σ H Q => ∃ env g B Γ, Slots S H B Γ H0 σ env ∧ Cells S H g B Γ ∧
  Out S σ W H B Γ (evE C e env g) fun d g' H' B' Γ' => ∀ v, Rep S H' B' Γ' v d → (isF S.T e = true → FreshAt S H H' B' Γ' v d) → Q v H'
def tDs (es : List Ex) : TA := fun σ H Q => ∃ env g B Γ, Slots S H B Γ H0 σ env ∧ Cells S H g B Γ ∧
  Out S σ W H B Γ (evEs C es env g) fun ds g' H' B' Γ' => ∀ vs, Reps S H' B' Γ' vs ds → Q vs H'
def tDT (e : Ex) : TT := fun σ H Q => ∃ env g B Γ, Slots S H B Γ H0 σ env ∧ Cells S H g B Γ ∧
  Out S σ W H B Γ (evE C e env g) fun d g' H' B' Γ' => ∃ b, d = .bl b ∧ Q b H'
end
theorem _root_.L2.PE.imp {X : Cx} {pe : Expr} {t t' : TE} (h : PE X pe t) (hi : ∀ σ H Q, t' σ H Q → t σ H Q) : PE X pe t' := ⟨fun pins s σ H Q I q => h.run pins s σ H Q I (hi _ _ _ q)⟩
theorem _root_.L2.PT.imp {X : Cx} {pe : Expr} {t t' : TT} (h : PT X pe t) (hi : ∀ σ H Q, t' σ H Q → t σ H Q) : PT X pe t' := ⟨fun pins s σ H Q I q => h.run pins s σ H Q I (hi _ _ _ q)⟩
theorem _root_.L2.PW.imp {X : Cx} {pe : Expr} {t t' : TT} (h : PW X pe t) (hi : ∀ σ H Q, t' σ H Q → t σ H Q) : PW X pe t' := ⟨fun wh pins s σ H Q I q => h.run wh pins s σ H Q I (hi _ _ _ q)⟩
theorem _root_.L2.PA.imp {X : Cx} {pe : List Expr} {t t' : TA} (h : PA X pe t) (hi : ∀ σ H Q, t' σ H Q → t σ H Q) : PA X pe t' := ⟨fun p pins s σ H Q I q => h.run p pins s σ H Q I (hi _ _ _ q)⟩
theorem _root_.L2.PS.imp {X : Cx} {pe : Stmt} {t t' : TS} (h : PS X pe t) (hi : ∀ D σ H, t' D σ H → t D σ H) : PS X pe t' := ⟨fun pins s σ H D I q => h.run pins s σ H D I (hi _ _ _ q)⟩
theorem _root_.L2.PSs.imp {X : Cx} {pe : List Stmt} {t t' : TS} (h : PSs X pe t) (hi : ∀ D σ H, t' D σ H → t D σ H) : PSs X pe t' := ⟨fun pins s σ H D I q => h.run pins s σ H D I (hi _ _ _ q)⟩

/-- a rule by values: what it asks follows from the data -/
def RO (S : Inf) (r : R2) (f : D → D → Option D) : Prop := ∀ H B Γ v1 v2 d1 d2 d Q, BadOk H B Γ → Rep S H B Γ v1 d1 → Rep S H B Γ v2 d2 → f d1 d2 = some d →
  (∀ v H', L2.Same H H' → Rep S H' B Γ v d → FreshAt S H H' B Γ v d → Q v H') → r v1 v2 H Q

section
variable {S : Inf} {H0 : Hp} {W : WX} {C : Nat → List D → Gs → R D} {X : Cx}
/-- one part, then what follows -/
theorem tD_bind {e : Ex} {σ : L2.St} {H : Hp} {env : Env} {g : Gs} {B : Bad} {Γ : List Addr} {β : Type} {f : D → Gs → R β} {Q : β → Gs → Hp → Bad → List Addr → Prop} {K : VK}
    (sl : Slots S H B Γ H0 σ env) (ce : Cells S H g B Γ) (h : Out S σ W H B Γ ((evE C e env g).bind f) Q)
    (k : ∀ d g1 H1 B1 Γ1 v, Slots S H1 B1 Γ1 H0 σ env → Cells S H1 g1 B1 Γ1 → Step H B Γ H1 B1 Γ1 → Rep S H1 B1 Γ1 v d → (isF S.T e = true → FreshAt S H H1 B1 Γ1 v d) → Out S σ W H1 B1 Γ1 (f d g1) Q → K v H1) :
    tD S H0 W C e σ H K :=
  ⟨env, g, B, Γ, sl, ce, h.bind.imp fun d g1 H1 B1 Γ1 c s o v r fr => k d g1 H1 B1 Γ1 v (sl.step ce.ok s) c s r fr o⟩
theorem tDs_bind {es : List Ex} {σ : L2.St} {H : Hp} {env : Env} {g : Gs} {B : Bad} {Γ : List Addr} {β : Type} {f : List D → Gs → R β} {Q : β → Gs → Hp → Bad → List Addr → Prop} {K : List V → Hp → Prop}
    (sl : Slots S H B Γ H0 σ env) (ce : Cells S H g B Γ) (h : Out S σ W H B Γ ((evEs C es env g).bind f) Q)
    (k : ∀ ds g1 H1 B1 Γ1 vs, Slots S H1 B1 Γ1 H0 σ env → Cells S H1 g1 B1 Γ1 → Step H B Γ H1 B1 Γ1 → Reps S H1 B1 Γ1 vs ds → Out S σ W H1 B1 Γ1 (f ds g1) Q → K vs H1) :
    tDs S H0 W C es σ H K :=
  ⟨env, g, B, Γ, sl, ce, h.bind.imp fun d g1 H1 B1 Γ1 c s o v r => k d g1 H1 B1 Γ1 v (sl.step ce.ok s) c s r o⟩
theorem tDT_bind {e : Ex} {σ : L2.St} {H : Hp} {env : Env} {g : Gs} {B : Bad} {Γ : List Addr} {β : Type} {f : D → Gs → R β} {Q : β → Gs → Hp → Bad → List Addr → Prop} {K : Bool → Hp → Prop}
    (sl : Slots S H B Γ H0 σ env) (ce : Cells S H g B Γ) (h : Out S σ W H B Γ ((evE C e env g).bind f) Q) (hn : ∀ d g H B Γ, (∀ b, d ≠ .bl b) → Out S σ W H B Γ (f d g) Q → False)
    (k : ∀ b g1 H1 B1 Γ1, Slots S H1 B1 Γ1 H0 σ env → Cells S H1 g1 B1 Γ1 → Step H B Γ H1 B1 Γ1 → Out S σ W H1 B1 Γ1 (f (.bl b) g1) Q → K b H1) :
    tDT S H0 W C e σ H K :=
  ⟨env, g, B, Γ, sl, ce, h.bind.imp fun d g1 H1 B1 Γ1 c s o => by
    by_cases hd : ∃ b, d = .bl b
    · obtain ⟨b, rfl⟩ := hd
      exact ⟨b, rfl, k b g1 H1 B1 Γ1 (sl.step ce.ok s) c s o⟩
    · exact (hn d g1 H1 B1 Γ1 (fun b e => hd ⟨b, e⟩) o).elim⟩
/-- the end: a value -/
theorem Out.fin {σ : L2.St} {H H' : Hp} {g : Gs} {B : Bad} {Γ : List Addr} {d : D} {v : V} {Q : VK} {F : D → Hp → Bad → List Addr → V → Prop} (ce : Cells S H g B Γ)
    (h : ∀ H' B' Γ', Cells S H' g B' Γ' → Step H B Γ H' B' Γ' → ∀ v, Rep S H' B' Γ' v d → F d H' B' Γ' v → Q v H') (s : L2.Same H H') (r : Rep S H' B Γ v d) (f : F d H' B Γ v) : Q v H' :=
  h H' B Γ (ce.same s) (Same.step s) v r f

theorem eok_op {o : Op} {pop : Operator} {r : R2} {ea eb : Ex} {a b : Expr} {pos : Pos} (ho : OpR X (binaryOp pop) r) (hr : RO S r (op2 o)) (ha : PE X a (tD S H0 W C ea)) (hb : PE X b (tD S H0 W C eb)) :
    PE X (.BinOp a pop b pos) (tD S H0 W C (.op o ea eb)) := by
  refine (pe_op ho ha hb).imp fun σ H Q ⟨env, g, B, Γ, sl, ce, h⟩ => ?_
  refine tD_bind sl ce h fun d1 g1 H1 B1 Γ1 v1 sl1 ce1 s1 r1 _ h1 => ?_
  refine tD_bind sl1 ce1 h1 fun d2 g2 H2 B2 Γ2 v2 sl2 ce2 s2 r2 _ h2 => ?_
  obtain ⟨d, e, h3⟩ := h2.of
  refine hr H2 B2 Γ2 v1 v2 d1 d2 d Q ce2.ok (r1.step ce1.ok s2) r2 e fun v H3 s3 r3 fr => ?_
  refine h3 H3 B2 Γ2 (ce2.same s3) (Same.step s3) v r3 fun hf => ?_
  have hs : Step H B Γ H2 B2 Γ2 := s1.trans s2
  cases d with
  | lst ds =>
    obtain ⟨p, vs, e1, e2, e3⟩ := fr
    exact ⟨p, vs, e1, hs.back e2, e3⟩
  | dic ks ws =>
    obtain ⟨p, vs, e1, e2, e3⟩ := fr
    exact ⟨p, vs, e1, hs.back e2, e3⟩
  | _ => trivial
theorem eok_cmp {o : Op} {pop : CmpOp} {r : R2} {ea eb : Ex} {a b : Expr} {pos : Pos} (ho : OpR X (compareOp pop) r) (hr : RO S r (op2 o)) (ha : PE X a (tD S H0 W C ea)) (hb : PE X b (tD S H0 W C eb))
    (hm : behindInMarks pop b = false) (hf : isF S.T (.op o ea eb) = false) : PE X (.Compare a [pop] [b] pos) (tD S H0 W C (.op o ea eb)) := by
  refine (pe_cmpR ho ha hb hm).imp fun σ H Q ⟨env, g, B, Γ, sl, ce, h⟩ => ?_
  refine tD_bind sl ce h fun d1 g1 H1 B1 Γ1 v1 sl1 ce1 s1 r1 _ h1 => ?_
  refine tD_bind sl1 ce1 h1 fun d2 g2 H2 B2 Γ2 v2 sl2 ce2 s2 r2 _ h2 => ?_
  obtain ⟨d, e, h3⟩ := h2.of
  exact hr H2 B2 Γ2 v1 v2 d1 d2 d Q ce2.ok (r1.step ce1.ok s2) r2 e fun v H3 s3 r3 fr => h3 H3 B2 Γ2 (ce2.same s3) (Same.step s3) v r3 fun hf' => by rw [hf] at hf'; cases hf'
/-- a bool's value -/
theorem Rep.blv {S : Inf} {H : Hp} {B : Bad} {Γ : List Addr} {v : V} {b : Bool} (h : Rep S H B Γ v (.bl b)) : v = .bl b := by cases h; rfl
theorem tok_cmp {o : Op} {pop : CmpOp} {r : R2} {ea eb : Ex} {a b : Expr} {pos : Pos} (ho : OpR X (compareOp pop) r) (hr : RO S r (op2 o)) (ha : PE X a (tD S H0 W C ea)) (hb : PE X b (tD S H0 W C eb))
    (hm : behindInMarks pop b = false) : PT X (.Compare a [pop] [b] pos) (tDT S H0 W C (.op o ea eb)) := by
  refine (pt_cmpR ho ha hb hm).imp fun σ H Q ⟨env, g, B, Γ, sl, ce, h⟩ => ?_
  refine tD_bind sl ce h fun d1 g1 H1 B1 Γ1 v1 sl1 ce1 s1 r1 _ h1 => ?_
  refine tD_bind sl1 ce1 h1 fun d2 g2 H2 B2 Γ2 v2 sl2 ce2 s2 r2 _ h2 => ?_
  obtain ⟨d, e, h3⟩ := h2.of
  refine hr H2 B2 Γ2 v1 v2 d1 d2 d _ ce2.ok (r1.step ce1.ok s2) r2 e fun v H3 s3 r3 fr => ?_
  obtain ⟨b, rfl, q⟩ := h3 H3 B2 Γ2 (ce2.same s3) (Same.step s3)
  exact ⟨b, r3.blv, q⟩
/-- a test by its value -/
theorem tok_val {e : Ex} {pe : Expr} (h : PE X pe (tD S H0 W C e)) (he : ∀ whole, isTrue pe X.env whole = (do let v ← whole; standAt pe.pos; holding [v] (truthy v))) : PT X pe (tDT S H0 W C e) := by
  refine (pt_val h he).imp fun σ H Q ⟨env, g, B, Γ, sl, ce, h⟩ => ?_
  refine ⟨env, g, B, Γ, sl, ce, h.imp fun d g' H' B' Γ' c s ⟨b, ed, q⟩ v r _ => ?_⟩
  subst ed
  exact ⟨b, r.blv, q⟩
theorem eok_neg {ea : Ex} {a : Expr} {pos : Pos} (ha : PE X a (tD S H0 W C ea)) : PE X (.UnaryOp .USub a pos) (tD S H0 W C (.neg ea)) := by
  refine (pe_un un_neg ha).imp fun σ H Q ⟨env, g, B, Γ, sl, ce, h⟩ => ?_
  refine tD_bind sl ce h fun d1 g1 H1 B1 Γ1 v1 sl1 ce1 s1 r1 _ h1 => ?_
  cases d1 with
  | int i =>
    cases r1
    exact ⟨i, rfl, h1 H1 B1 Γ1 ce1 .refl _ (.int _) fun z => nomatch z⟩
  | _ => exact h1.elim
theorem eok_not {ea : Ex} {a : Expr} {pos : Pos} (ha : PE X a (tD S H0 W C ea)) : PE X (.UnaryOp .Not a pos) (tD S H0 W C (.not ea)) := by
  refine (pe_not ha).imp fun σ H Q ⟨env, g, B, Γ, sl, ce, h⟩ => ?_
  refine tD_bind sl ce h fun d1 g1 H1 B1 Γ1 v1 sl1 ce1 s1 r1 _ h1 => ?_
  cases d1 with
  | bl i =>
    cases r1
    exact ⟨i, rfl, h1 H1 B1 Γ1 ce1 .refl _ (.bl _) fun z => nomatch z⟩
  | _ => exact h1.elim
theorem tok_not {ea : Ex} {a : Expr} {pos : Pos} (ha : PT X a (tDT S H0 W C ea)) : PT X (.UnaryOp .Not a pos) (tDT S H0 W C (.not ea)) := by
  refine (pt_not ha).imp fun σ H Q ⟨env, g, B, Γ, sl, ce, h⟩ => ?_
  refine tDT_bind sl ce h (fun d g H B Γ hn z => ?_) fun b g1 H1 B1 Γ1 sl1 ce1 s1 h1 => ?_
  · cases d with
    | bl b => exact hn b rfl
    | _ => exact z.elim
  · obtain ⟨b', e, q⟩ := h1 H1 B1 Γ1 ce1 .refl
    injection e with e
    subst e
    exact q
theorem eok_and {ea eb : Ex} {a b : Expr} {rest : List Expr} {pos : Pos} (ha : PE X a (tD S H0 W C ea)) (hb : PE X (.BoolOp .And (b :: rest) pos) (tD S H0 W C eb)) :
    PE X (.BoolOp .And (a :: b :: rest) pos) (tD S H0 W C (.and_ ea eb)) := by
  refine (pe_and ha hb).imp fun σ H Q ⟨env, g, B, Γ, sl, ce, h⟩ => ?_
  refine tD_bind sl ce h fun d1 g1 H1 B1 Γ1 v1 sl1 ce1 s1 r1 _ h1 => ?_
  cases d1 with
  | bl i =>
    cases r1
    refine ⟨i, rfl, ?_⟩
    cases i with
    | true =>
      rw [if_pos rfl]
      exact ⟨env, g1, B1, Γ1, sl1, ce1, h1.imp fun d g' H' B' Γ' c s q v r fr => q v r fun z => nomatch z⟩
    | false =>
      rw [if_neg Bool.false_ne_true]
      exact h1 H1 B1 Γ1 ce1 .refl _ (.bl _) fun z => nomatch z
  | _ => exact h1.elim
theorem eok_or {ea eb : Ex} {a b : Expr} {rest : List Expr} {pos : Pos} (ha : PE X a (tD S H0 W C ea)) (hb : PE X (.BoolOp .Or (b :: rest) pos) (tD S H0 W C eb)) :
    PE X (.BoolOp .Or (a :: b :: rest) pos) (tD S H0 W C (.or_ ea eb)) := by
  refine (pe_or ha hb).imp fun σ H Q ⟨env, g, B, Γ, sl, ce, h⟩ => ?_
  refine tD_bind sl ce h fun d1 g1 H1 B1 Γ1 v1 sl1 ce1 s1 r1 _ h1 => ?_
  cases d1 with
  | bl i =>
    cases r1
    refine ⟨i, rfl, ?_⟩
    cases i with
    | true =>
      rw [if_pos rfl]
      exact h1 H1 B1 Γ1 ce1 .refl _ (.bl _) fun z => nomatch z
    | false =>
      rw [if_neg Bool.false_ne_true]
      exact ⟨env, g1, B1, Γ1, sl1, ce1, h1.imp fun d g' H' B' Γ' c s q v r fr => q v r fun z => nomatch z⟩
  | _ => exact h1.elim
theorem tok_and {ea eb : Ex} {a b : Expr} {rest : List Expr} {pos : Pos} (ha : PT X a (tDT S H0 W C ea)) (hb : PW X (.BoolOp .And (b :: rest) pos) (tDT S H0 W C eb)) :
    PW X (.BoolOp .And (a :: b :: rest) pos) (tDT S H0 W C (.and_ ea eb)) := by
  refine (pw_and ha hb).imp fun σ H Q ⟨env, g, B, Γ, sl, ce, h⟩ => ?_
  refine tDT_bind sl ce h (fun d g H B Γ hn z => ?_) fun b g1 H1 B1 Γ1 sl1 ce1 s1 h1 => ?_
  · cases d with
    | bl b => exact hn b rfl
    | _ => exact z.elim
  · cases b with
    | true =>
      rw [if_pos rfl]
      exact ⟨env, g1, B1, Γ1, sl1, ce1, h1⟩
    | false =>
      rw [if_neg Bool.false_ne_true]
      obtain ⟨b', e, q⟩ := h1 H1 B1 Γ1 ce1 .refl
      injection e with e
      subst e
      exact q
theorem tok_or {ea eb : Ex} {a b : Expr} {rest : List Expr} {pos : Pos} (ha : PT X a (tDT S H0 W C ea)) (hb : PW X (.BoolOp .Or (b :: rest) pos) (tDT S H0 W C eb)) :
    PW X (.BoolOp .Or (a :: b :: rest) pos) (tDT S H0 W C (.or_ ea eb)) := by
  refine (pw_or ha hb).imp fun σ H Q ⟨env, g, B, Γ, sl, ce, h⟩ => ?_
  refine tDT_bind sl ce h (fun d g H B Γ hn z => ?_) fun b g1 H1 B1 Γ1 sl1 ce1 s1 h1 => ?_
  · cases d with
    | bl b => exact hn b rfl
    | _ => exact z.elim
  · cases b with
    | true =>
      rw [if_pos rfl]
      obtain ⟨b', e, q⟩ := h1 H1 B1 Γ1 ce1 .refl
      injection e with e
      subst e
      exact q
    | false =>
      rw [if_neg Bool.false_ne_true]
      exact ⟨env, g1, B1, Γ1, sl1, ce1, h1⟩
theorem eok_ite {ec ea eb : Ex} {c a b : Expr} {pos : Pos} (hc : PT X c (tDT S H0 W C ec)) (ha : PE X a (tD S H0 W C ea)) (hb : PE X b (tD S H0 W C eb)) :
    PE X (.IfExp c a b pos) (tD S H0 W C (.ite ec ea eb)) := by
  refine (pe_ifExp hc ha hb).imp fun σ H Q ⟨env, g, B, Γ, sl, ce, h⟩ => ?_
  refine tDT_bind sl ce h (fun d g H B Γ hn z => ?_) fun b g1 H1 B1 Γ1 sl1 ce1 s1 h1 => ?_
  · cases d with
    | bl b => exact hn b rfl
    | _ => exact z.elim
  · have wk : ∀ {d : D} {H' : Hp} {B' : Bad} {Γ' : List Addr} {v : V}, FreshAt S H1 H' B' Γ' v d → FreshAt S H H' B' Γ' v d := fun {d H' B' Γ' v} fr => by
      cases d with
      | lst ds => obtain ⟨p, vs, e1, e2, e3⟩ := fr; exact ⟨p, vs, e1, s1.back e2, e3⟩
      | dic ks ws => obtain ⟨p, vs, e1, e2, e3⟩ := fr; exact ⟨p, vs, e1, s1.back e2, e3⟩
      | _ => trivial
    cases b with
    | true =>
      rw [if_pos rfl]
      exact ⟨env, g1, B1, Γ1, sl1, ce1, h1.imp fun d g' H' B' Γ' c s q v r fr => q v r fun z => wk (fr (Bool.and_eq_true_iff.mp z).1)⟩
    | false =>
      rw [if_neg Bool.false_ne_true]
      exact ⟨env, g1, B1, Γ1, sl1, ce1, h1.imp fun d g' H' B' Γ' c s q v r fr => q v r fun z => wk (fr (Bool.and_eq_true_iff.mp z).2)⟩
theorem tok_ite {ec ea eb : Ex} {c a b : Expr} {pos : Pos} (hc : PT X c (tDT S H0 W C ec)) (ha : PT X a (tDT S H0 W C ea)) (hb : PT X b (tDT S H0 W C eb)) :
    PT X (.IfExp c a b pos) (tDT S H0 W C (.ite ec ea eb)) := by
  refine ⟨fun pins s σ H Q I ⟨env, g, B, Γ, sl, ce, h⟩ => ?_⟩
  have hh : tDT S H0 W C ec σ H fun b H1 => if b = true then tDT S H0 W C ea σ H1 Q else tDT S H0 W C eb σ H1 Q := by
    refine tDT_bind sl ce h (fun d g H B Γ hn z => ?_) fun b g1 H1 B1 Γ1 sl1 ce1 s1 h1 => ?_
    · cases d with
      | bl b => exact hn b rfl
      | _ => exact z.elim
    · cases b with
      | true => rw [if_pos rfl]; exact ⟨env, g1, B1, Γ1, sl1, ce1, h1⟩
      | false => rw [if_neg Bool.false_ne_true]; exact ⟨env, g1, B1, Γ1, sl1, ce1, h1⟩
  show wpAny _ _ (do if ← isTrue c X.env (eval c X.env) then isTrue a X.env (eval a X.env) else isTrue b X.env (eval b X.env)) _ _ _
  refine wpAny_bind (thn (hc.run pins s σ H _ I hh) fun d s1 ⟨H1, I1, q1⟩ => ?_)
  cases d with
  | true => rw [if_pos rfl] at q1; simp only [if_true]; exact ha.run pins s1 σ H1 Q I1 q1
  | false => rw [if_neg Bool.false_ne_true] at q1; simp only [Bool.false_eq_true, if_false]; exact hb.run pins s1 σ H1 Q I1 q1
/-- argument lists -/
theorem aok_nil : PA X [] (tDs S H0 W C []) := pa_nil.imp fun σ H Q ⟨env, g, B, Γ, sl, ce, h⟩ => h H B Γ ce .refl [] .nil
theorem aok_cons {e : Ex} {es : List Ex} {pe : Expr} {pes : List Expr} (ha : PE X pe (tD S H0 W C e)) (hr : PA X pes (tDs S H0 W C es)) (hs : starEach (pe :: pes) X.env = (false, eval pe X.env) :: starEach pes X.env) :
    PA X (pe :: pes) (tDs S H0 W C (e :: es)) := by
  refine (pa_cons ha hr hs).imp fun σ H Q ⟨env, g, B, Γ, sl, ce, h⟩ => ?_
  refine tD_bind sl ce h fun d1 g1 H1 B1 Γ1 v1 sl1 ce1 s1 r1 _ h1 => ?_
  refine tDs_bind sl1 ce1 h1 fun ds g2 H2 B2 Γ2 vs sl2 ce2 s2 r2 h2 => ?_
  exact h2 H2 B2 Γ2 ce2 .refl _ (.cons (r1.step ce1.ok s2) r2)
theorem evEs_len : ∀ (es : List Ex) (env : Env) (g : Gs) (ds : List D) (g' : Gs), evEs C es env g = .ok ds g' → ds.length = es.length
  | [], env, g, ds, g', h => by
    injection h with h1 h2
    rw [← h1]; rfl
  | e :: es, env, g, ds, g', h => by
    have h : ((evE C e env g).bind fun d g => (evEs C es env g).bind fun ds g => .ok (d :: ds) g) = .ok ds g' := h
    cases e1 : evE C e env g with
    | ok d g1 =>
      rw [e1] at h
      have h : ((evEs C es env g1).bind fun ds g => .ok (d :: ds) g) = .ok ds g' := h
      cases e2 : evEs C es env g1 with
      | ok ds2 g2 =>
        rw [e2] at h
        have h : R.ok (d :: ds2) g2 = .ok ds g' := h
        injection h with h1 h2
        rw [← h1, List.length_cons, List.length_cons, evEs_len es env g1 ds2 g2 e2]
      | exc c p g2 => rw [e2] at h; cases h
      | no => rw [e2] at h; cases h
    | exc c p g1 => rw [e1] at h; cases h
    | no => rw [e1] at h; cases h
/-- argument lists of a told length -/
theorem tDs_bindL {es : List Ex} {σ : L2.St} {H : Hp} {env : Env} {g : Gs} {B : Bad} {Γ : List Addr} {β : Type} {f : List D → Gs → R β} {Q : β → Gs → Hp → Bad → List Addr → Prop} {K : List V → Hp → Prop}
    (sl : Slots S H B Γ H0 σ env) (ce : Cells S H g B Γ) (h : Out S σ W H B Γ ((evEs C es env g).bind f) Q)
    (k : ∀ ds g1 H1 B1 Γ1 vs, ds.length = es.length → Slots S H1 B1 Γ1 H0 σ env → Cells S H1 g1 B1 Γ1 → Step H B Γ H1 B1 Γ1 → Reps S H1 B1 Γ1 vs ds → Out S σ W H1 B1 Γ1 (f ds g1) Q → K vs H1) :
    tDs S H0 W C es σ H K := by
  refine ⟨env, g, B, Γ, sl, ce, ?_⟩
  cases e : evEs C es env g with
  | ok ds g1 =>
    rw [e] at h
    have hl := evEs_len es env g ds g1 e
    have h := Out.bind h
    exact fun H1 B1 Γ1 c s v r => k ds g1 H1 B1 Γ1 v hl (sl.step ce.ok s) c s r (h H1 B1 Γ1 c s)
  | exc c p g1 => rw [e] at h; exact h
  | no => rw [e] at h; exact h
theorem Step.seqF {H H1 H2 : Hp} {B B1 : Bad} {Γ Γ1 : List Addr} {Bx : Bad} {Γx : List Addr} (s1 : Step H B Γ H1 B1 Γ1) {v : V} {d : D} (fr : FreshAt S H1 H2 Bx Γx v d) : FreshAt S H H2 Bx Γx v d := by
  cases d with
  | lst ds => obtain ⟨p, vs, e1, e2, e3⟩ := fr; exact ⟨p, vs, e1, s1.back e2, e3⟩
  | dic ks ws => obtain ⟨p, vs, e1, e2, e3⟩ := fr; exact ⟨p, vs, e1, s1.back e2, e3⟩
  | _ => trivial
theorem not_bad_new {H : Hp} {B : Bad} {Γ : List Addr} {p : Addr} (ok : BadOk H B Γ) (h : H p = none) : ¬ B p := fun b => ok.live b h
/-- a new tuple, a new list -/
theorem new_tup {H : Hp} {B : Bad} {Γ : List Addr} {p : Addr} {vs : List V} {ds : List D} (ok : BadOk H B Γ) (h : H p = none) (r : Reps S H B Γ vs ds) : Rep S (upd H p (.tup vs)) B Γ (.ref p) (.tup ds) :=
  .tup (SqT.of upd_same) (r.step ok (Same.step (same_laid h)))
theorem new_lst {H : Hp} {B : Bad} {Γ : List Addr} {p : Addr} {vs : List V} {ds : List D} (ok : BadOk H B Γ) (h : H p = none) (r : Reps S H B Γ vs ds) :
    Rep S (upd H p (.lst vs)) B Γ (.ref p) (.lst ds) ∧ FreshAt S H (upd H p (.lst vs)) B Γ (.ref p) (.lst ds) :=
  ⟨.lst upd_same (not_bad_new ok h) (r.step ok (Same.step (same_laid h))), p, vs, rfl, h, not_bad_new ok h, upd_same, by
    exact Reps.more' h r⟩
theorem eok_tup {es : List Ex} {pes : List Expr} {k : Nat} {pos : Pos} (h : PA X pes (tDs S H0 W C es)) (hl : es.length ≤ 1000) : PE X (.Tuple pes k pos) (tD S H0 W C (.tup es)) := by
  refine (pe_tup h).imp fun σ H Q ⟨env, g, B, Γ, sl, ce, h⟩ => ?_
  refine tDs_bindL sl ce h fun ds g1 H1 B1 Γ1 vs hlen sl1 ce1 s1 r1 h1 => ?_
  refine ⟨by rw [r1.length, hlen, sizeLine_eq]; omega, fun p hp => ?_⟩
  exact h1 _ B1 Γ1 (ce1.same (same_laid hp)) (Same.step (same_laid hp)) _ (new_tup ce1.ok hp r1) fun z => nomatch z
theorem eok_lst {es : List Ex} {pes : List Expr} {pos : Pos} (h : PA X pes (tDs S H0 W C es)) (hl : es.length ≤ 1000) : PE X (.List pes pos) (tD S H0 W C (.lst es)) := by
  refine (pe_lst h).imp fun σ H Q ⟨env, g, B, Γ, sl, ce, h⟩ => ?_
  refine tDs_bindL sl ce h fun ds g1 H1 B1 Γ1 vs hlen sl1 ce1 s1 r1 h1 => ?_
  refine ⟨by rw [r1.length, hlen, sizeLine_eq]; omega, fun p hp => ?_⟩
  obtain ⟨q1, q2⟩ := new_lst ce1.ok hp r1
  exact h1 _ B1 Γ1 (ce1.same (same_laid hp)) (Same.step (same_laid hp)) _ q1 fun _ => s1.seqF q2
end
end Rz

/-! RzX0 -/
set_option Elab.async false
set_option linter.all false
set_option maxRecDepth 100000
set_option maxHeartbeats 4000000
namespace Rz
open PySem PySem.Spec PyProof.Rows L2

/-! ### a tuple from its end -/
theorem adjust_rev (n : Nat) : Builtin.Slice.sliceAdjust none none (-1) (n : Int) = ((n : Int) - 1, -1) := rfl
theorem places_rev (n : Nat) : Builtin.Slice.slicePlaces ((n : Int) - 1) (-1) (-1) = n := by
  unfold Builtin.Slice.slicePlaces
  have h1 : ¬ ((-1 : Int) > 0) := by omega
  simp only [h1, if_false, Int.neg_neg, Int.ediv_one]
  split <;> omega
theorem fmap_congr {α β : Type} {f g : α → Option β} : ∀ {l : List α}, (∀ a ∈ l, f a = g a) → l.filterMap f = l.filterMap g
  | [], _ => rfl
  | a :: l, h => by
    rw [List.filterMap_cons, List.filterMap_cons, h a (List.mem_cons_self ..), fmap_congr fun b hb => h b (List.mem_cons_of_mem _ hb)]
theorem pick_rev (xs : Array Value) : ((List.range xs.size).filterMap fun (m : Nat) => xs[(((xs.size : Int) - 1) + (m : Int) * (-1)).toNat]?).toArray = xs.toList.reverse.toArray := by
  congr 1
  have key : ∀ (l : List Value), (List.range l.length).filterMap (fun (m : Nat) => l[(((l.length : Int) - 1) + (m : Int) * (-1)).toNat]?) = l.reverse := fun l => by
    apply List.ext_getElem?
    intro i
    have e : (List.range l.length).filterMap (fun (m : Nat) => l[(((l.length : Int) - 1) + (m : Int) * (-1)).toNat]?) = (List.range l.length).map fun m => (l[l.length - 1 - m]?).getD .none := by
      rw [← List.filterMap_eq_map]
      apply fmap_congr
      intro m hm
      have hm := List.mem_range.mp hm
      have e1 : (((l.length : Int) - 1) + (m : Int) * (-1)).toNat = l.length - 1 - m := by omega
      rw [e1]
      show _ = some ((l[l.length - 1 - m]?).getD .none)
      rw [List.getElem?_eq_getElem (show l.length - 1 - m < l.length by omega)]; rfl
    rw [e]
    by_cases hi : i < l.length
    · rw [List.getElem?_map, List.getElem?_range hi, List.getElem?_reverse hi]
      rw [List.getElem?_eq_getElem (show l.length - 1 - i < l.length by omega)]
      show some ((l[l.length - 1 - i]?).getD .none) = _
      rw [List.getElem?_eq_getElem (show l.length - 1 - i < l.length by omega)]; rfl
    · rw [List.getElem?_eq_none (by simp; omega), List.getElem?_eq_none (by simp; omega)]
  have := key xs.toList
  simp only [Array.length_toList, Array.getElem?_toList] at this
  exact this
section
variable {prog : Program} {w : World} {A : Around} {E : Value → Shared → Prop} {s : Shared}
theorem sliceApplied_rev {sl : Addr} {vl vu vs : Value} {n : Nat} {Q : Int × Int × Nat → Shared → Prop} (hs : s.heap.IsSliceOf sl vl vu vs) (pl : IsPart vl none) (pu : IsPart vu none) (ps : IsPart vs (some (-1)))
    (h : Q ((n : Int) - 1, -1, n) s) : wpAny (model prog w) A (Builtin.Slice.sliceApplied (.ref sl) (pure (n : Int))) Q E s := by
  obtain ⟨os, hos, hcs, hds⟩ := id hs
  unfold Builtin.Slice.sliceApplied Builtin.Slice.sliceFields
  refine wpAny_bind (wpAny_bind (wpAny_field hos hds (x := vl) rfl (wpAny_bind (wpAny_field hos hds (x := vu) rfl (wpAny_bind (wpAny_field hos hds (x := vs) rfl (wpAny_pure ?_)))))))
  refine wpAny_bind (HT.slicePart_ ps ?_)
  show wpAny _ _ (if ((-1 : Int) == 0) = true then _ else _) _ _ s
  rw [if_neg (by decide)]
  refine wpAny_bind (HT.slicePart_ pl (wpAny_bind (HT.slicePart_ pu (wpAny_bind (wpAny_pure ?_)))))
  show wpAny _ _ (pure ((n : Int) - 1, (-1 : Int), Builtin.Slice.slicePlaces ((n : Int) - 1) (-1) (-1))) _ _ s
  rw [places_rev]
  exact wpAny_pure h
theorem getItem_tuple_rev {t sl : Addr} {items : Array Value} {vl vu vs : Value} {Q : Value → Shared → Prop} (ht : IsTup s.heap t items) (hs : s.heap.IsSliceOf sl vl vu vs) (pl : IsPart vl none) (pu : IsPart vu none) (ps : IsPart vs (some (-1)))
    (h : Q (.ref s.heap.objs.size) { s with heap := s.heap.push { cls := .type "tuple", data := .seq items.toList.reverse.toArray } })
    (hsz : items.size ≤ sizeLine) : wpAny (model prog w) A (getItem (.ref t) (.ref sl)) Q E s := by
  have htake : sizeOk (.seq items.toList.reverse.toArray) := by
    show items.toList.reverse.toArray.size ≤ sizeLine
    rw [List.size_toArray, List.length_reverse, Array.length_toList]
    exact hsz
  obtain ⟨os, hos, hcs, hds⟩ := id hs
  have hTs : s.TypeIs (.ref sl) "slice" := ⟨os, hos, hcs⟩
  unfold getItem
  try with_reducible refine wpAny_holding ?_
  first | refine wpAny_bind (wpAny_pure ?_) | skip
  refine wpAny_bind (wpAny_sequenceKey ht.typeIs (by decide) ?_)
  refine wpAny_bind (wpAny_callSpecial?_slot (name := Str.ofString "__getitem__") ht.typeIs PyProof.Rows.slot_tuple_getitem
    (wpAny_call_entry PyProof.Rows.slot_tuple_getitem ht.typeIs entry_tuple_getitem ?_ (args_tuple_getitem _ _)))
  show wpAny _ _ (Builtin.Tuple.tupleItemsOf (.ref t) >>= _) _ _ s
  refine wpAny_bind (tupleItemsOf_ ht ?_)
  refine wpAny_bind (wpAny_typeOf hTs ?_)
  rw [if_pos (by decide)]
  refine wpAny_bind (sliceApplied_rev hs pl pu ps ?_)
  have hno : ¬ ((((items.size : Int) - 1) == 0 && (-1 : Int) == 1 && items.size == items.size) = true) := by
    intro q
    rw [Bool.and_eq_true, Bool.and_eq_true] at q
    exact absurd q.1.2 (by decide)
  show wpAny _ _ (if (((items.size : Int) - 1) == 0 && (-1 : Int) == 1 && items.size == items.size) = true then _ else _) _ _ s
  rw [if_neg hno, pick_rev]
  first
    | exact wpAny_bind (m := Builtin.Tuple.tupleExact _) (wpAny_newObj_type (wpAny_pure ⟨_, rfl, wpAny_pure h⟩) htake)
    | exact wpAny_bind (m := Builtin.Tuple.tupleExact _) (wpAny_newObj_type (wpAny_bind (wpAny_pure (wpAny_pure ⟨_, rfl, wpAny_pure h⟩))) htake)
    | exact wpAny_bind (wpAny_bind (m := Builtin.Tuple.tupleExact _) (wpAny_newObj_type (wpAny_pure (wpAny_pure ⟨_, rfl, wpAny_pure h⟩)) htake))
    | exact wpAny_bind (wpAny_bind (m := Builtin.Tuple.tupleExact _) (wpAny_newObj_type (wpAny_pure ⟨_, rfl, wpAny_pure h⟩) htake))
end
section
variable {X : Cx}
/-- a[::-1] of a list, of a tuple -/
def tRevA (K : PySem.W.Frag) (te : TE) : TE := fun σ H Q => te σ H fun x H1 => (∃ a xs, x = .ref a ∧ SqL K H1 a xs ∧ ∀ p, H1 p = none → Q (.ref p) (upd H1 p (.lst xs.reverse))) ∨ ∃ a xs, x = .ref a ∧ SqT K H1 a xs ∧ xs.length ≤ sizeLine ∧ ∀ p, H1 p = none → Q (.ref p) (upd H1 p (.tup xs.reverse))
theorem pe_revA {e : Expr} {te : TE} {k : Nat} {p1 p2 p3 pos : Pos} (he : PE X e te) : PE X (.Subscript e (.Slice none none (some (.UnaryOp .USub (.Constant (.int 1) k p1) p2)) p3) pos) (tRevA X.K te) := by
  refine ⟨fun pins s σ H Q I h => ?_⟩
  refine Subscript_ (thn (he.run pins s σ H _ I h) fun v s1 ⟨x, H1, I1, r1, q1⟩ => ?_)
  have hst : PO X (some (.UnaryOp .USub (.Constant (.int 1) k p1) p2)) (tPart (tUn (rU fun i => .int (-i)) (tC (.int 1)))) := po_some (pe_un un_neg pe_int)
  refine wpAny_Slice (thn (po_none.run pins s1 σ H1 (fun o H2 => o = none ∧ H2 = H1) I1 ⟨rfl, rfl⟩) fun vl s2 ⟨l, H2, I2, pl, el, e2⟩ => ?_)
  subst el e2
  refine thn (po_none.run pins s2 σ H2 (fun o H3 => o = none ∧ H3 = H2) I2 ⟨rfl, rfl⟩) fun vu s3 ⟨u, H3, I3, pu, eu, e3⟩ => ?_
  subst eu e3
  refine thn (hst.run pins s3 σ H3 (fun o H4 => o = some (-1) ∧ H4 = H3) I3 ⟨1, rfl, -1, rfl, rfl, rfl⟩) fun vs s4 ⟨o, H4, I4, ps, eo, e4⟩ => ?_
  subst eo e4
  have I5 : Inv X pins σ H4 { s4 with heap := s4.heap.push { cls := .type "slice", data := .fields #[vl, vu, vs] } } := I4.kept (t' := s4.toks) fun b ob q => Heap.get?_push_of_some _ q
  rcases q1 with ⟨a, xs, ex, hx, q⟩ | ⟨a, xs, ex, hx, hz, q⟩
  · subst ex
    cases r1
    obtain ⟨its, r, ht, hz⟩ := I5.list hx
    have hlen := r.length
    show wpAny (model X.prog X.w) X.A (subscriptTail e (.Slice none none (some (.UnaryOp .USub (.Constant (.int 1) k p1) p2)) p3) (.ref a) (.ref s4.heap.objs.size)) (EP X pins σ Q) X.xe { s4 with heap := s4.heap.push { cls := .type "slice", data := .fields #[vl, vu, vs] } }
    refine tail_any (ops := [.ref a, .ref s4.heap.objs.size]) ht.isList.typeIs (PySem.slot_list_getitem.lookup) ?_ (by with_unfolding_all rfl)
    refine wpAny_getItem_list_slice ht.isList (Heap.IsSliceOf.new _ vl vu vs) pl pu ps (by decide) ?_ (by rw [List.size_toArray]; omega)
    rw [PySem.W.krv_pick]
    refine ⟨.ref _, _, I5.laid (t' := s4.toks) (o := .lst xs.reverse) (fun b ob q => Heap.get?_push_of_some _ q) (Nat.le_refl _) ?_, rfl, q _ (I5.hok.fresh (Nat.le_refl _))⟩
    exact ⟨by rw [List.length_reverse]; exact hz, _, 0, r.reverse, Heap.get?_push_size _ rfl⟩
  · subst ex
    cases r1
    obtain ⟨its, r, ht, _⟩ := I5.tuple hx
    have hlen := r.length
    show wpAny (model X.prog X.w) X.A (subscriptTail e (.Slice none none (some (.UnaryOp .USub (.Constant (.int 1) k p1) p2)) p3) (.ref a) (.ref s4.heap.objs.size)) (EP X pins σ Q) X.xe { s4 with heap := s4.heap.push { cls := .type "slice", data := .fields #[vl, vu, vs] } }
    refine tail_any (ops := [.ref a, .ref s4.heap.objs.size]) ht.typeIs PyProof.Rows.slot_tuple_getitem.lookup ?_ (by with_unfolding_all rfl)
    refine getItem_tuple_rev ht (Heap.IsSliceOf.new _ vl vu vs) pl pu ps ?_ (by rw [List.size_toArray]; omega)
    refine ⟨.ref _, _, I5.laid (t' := s4.toks) (o := .tup xs.reverse) (fun b ob q => Heap.get?_push_of_some _ q) (Nat.le_refl _) ?_, rfl, q _ (I5.hok.fresh (Nat.le_refl _))⟩
    exact ⟨by rw [List.length_reverse]; exact hz, its.reverse, r.reverse, _, Heap.get?_push_size _ rfl, rfl, 0, rfl⟩
end

/-! ### a truth value among whole numbers -/
section
variable {X : Cx}
theorem op_add_bi : OpR X (binaryOp .Add) (fun x y H Q => ∃ b j, x = .bl b ∧ y = .int j ∧ Q (.int ((if b = true then (1 : Int) else 0) + j)) H) := by
  intro pins s σ H x y v u Q I rx ry h
  obtain ⟨b, j, rfl, rfl, q⟩ := h
  cases rx
  obtain ⟨t, rfl⟩ := ry
  exact PySem.IntBool.add_bool_int ⟨.int ((if b = true then (1 : Int) else 0) + j), H, I.tok _, ⟨_, rfl⟩, q⟩
theorem op_sub_bi : OpR X (binaryOp .Sub) (fun x y H Q => ∃ b j, x = .bl b ∧ y = .int j ∧ Q (.int ((if b = true then (1 : Int) else 0) - j)) H) := by
  intro pins s σ H x y v u Q I rx ry h
  obtain ⟨b, j, rfl, rfl, q⟩ := h
  cases rx
  obtain ⟨t, rfl⟩ := ry
  exact PySem.IntBool.sub_bool_int ⟨.int ((if b = true then (1 : Int) else 0) - j), H, I.tok _, ⟨_, rfl⟩, q⟩
end
end Rz

/-! RzS3 -/
set_option Elab.async false
set_option linter.all false
set_option maxRecDepth 100000
set_option maxHeartbeats 4000000
namespace Rz
open PySem PySem.Spec PyProof.Rows L2

/-! ### texts -/
theorem sOf_app (a b : List Nat) : sOf a ++ sOf b = sOf (a ++ b) := by
  show Str.append (sOf a) (sOf b) = _
  unfold Str.append sOf
  simp
theorem sOf_len (a : List Nat) : (sOf a).length = a.length := by unfold sOf Str.length; simp
theorem sOf_list (a : List Nat) : (sOf a).cps.toList = a := by unfold sOf; simp
theorem sOf_of (x : Str) : sOf x.cps.toList = x := by
  obtain ⟨a⟩ := x
  unfold sOf; simp
theorem sOf_inj {a b : List Nat} (h : sOf a = sOf b) : a = b := by rw [← sOf_list a, ← sOf_list b, h]
theorem lineN_le : lineN ≤ sizeLine := by rw [sizeLine_eq]; decide

/-! ### data of the library -/
mutual
def toPD : D → PyData
  | .non => .none
  | .bl b => .bool b
  | .int i => .int i
  | .str s => .str (sOf s)
  | .tup ds => .tuple (toPDs ds)
  | .lst ds => .list (toPDs ds)
  | _ => .dict []
def toPDs : List D → List PyData
  | [] => []
  | d :: ds => toPD d :: toPDs ds
end
mutual
theorem toPD_depth : ∀ (n : Nat) (d : D), D.shp n d = true → (toPD d).depth ≤ n ∧ (toPD d).canLay0 = true
  | n, .non, _ => by simp [toPD, PyData.depth, PyData.canLay0]
  | n, .bl b, _ => by simp [toPD, PyData.depth, PyData.canLay0]
  | n, .int i, _ => by simp [toPD, PyData.depth, PyData.canLay0]
  | n, .str s, h => by
    have h : (s.all fun c => Nat.blt c 55296) = true := by cases n <;> exact h
    refine ⟨by simp [toPD, PyData.depth], ?_⟩
    simp only [toPD, PyData.canLay0, PyData.strOk, sOf]
    rw [List.all_eq_true] at h
    rw [List.size_toArray, ← List.size_toArray, Array.all_eq_true]
    intro i hi
    have hi' : i < s.length := by simpa using hi
    have q : s[i] < 55296 := Nat.le_of_ble_eq_true (h _ (List.getElem_mem hi'))
    simp only [List.getElem_toArray, decide_eq_true_eq]
    omega
  | 0, .tup ds, h => by simp [D.shp] at h
  | 0, .lst ds, h => by simp [D.shp] at h
  | n + 1, .tup ds, h => by
    have h : D.shps n ds = true := h
    obtain ⟨h1, h2⟩ := toPDs_depth n ds h
    refine ⟨?_, ?_⟩
    · simp only [toPD, PyData.depth]; omega
    · simp only [toPD, PyData.canLay0]; exact h2
  | n + 1, .lst ds, h => by
    have h : D.shps n ds = true := h
    obtain ⟨h1, h2⟩ := toPDs_depth n ds h
    refine ⟨?_, ?_⟩
    · simp only [toPD, PyData.depth]; omega
    · simp only [toPD, PyData.canLay0]; exact h2
  | n, .dic _ _, h => by cases n <;> simp [D.shp] at h
  | n, .fn _, h => by cases n <;> simp [D.shp] at h
  | n, .mref _, h => by cases n <;> simp [D.shp] at h
  | n, .scr _, h => by cases n <;> simp [D.shp] at h
theorem toPDs_depth : ∀ (n : Nat) (ds : List D), D.shps n ds = true → PyData.depthAll (toPDs ds) ≤ n ∧ PyData.canLayAll0 (toPDs ds) = true
  | n, [], _ => by simp [toPDs, PyData.depthAll, PyData.canLayAll0]
  | n, d :: ds, h => by
    have h : (D.shp n d && D.shps n ds) = true := by cases n <;> exact h
    rw [Bool.and_eq_true] at h
    obtain ⟨a1, a2⟩ := toPD_depth n d h.1
    obtain ⟨b1, b2⟩ := toPDs_depth n ds h.2
    refine ⟨?_, ?_⟩
    · simp only [toPDs, PyData.depthAll]; omega
    · simp only [toPDs, PyData.canLayAll0, a2, b2, Bool.and_self]
end
theorem toPD_shaped {d : D} (h : D.shp 60 d = true) : SeqAt.shaped (toPD d) = true := by
  obtain ⟨h1, h2⟩ := toPD_depth 60 d h
  unfold SeqAt.shaped
  rw [h2, Bool.true_and]
  exact decide_eq_true (by omega)
mutual
theorem toPD_eqv : ∀ (n : Nat) (d e : D), D.shp n d = true → D.shp n e = true → PyData.eqv (toPD d) (toPD e) = D.eqv d e := fun n d e hd he => by
  cases d <;> cases e <;> first
    | (simp [toPD, PyData.eqv, D.eqv]; done)
    | (cases n <;> simp [D.shp] at hd; done)
    | (cases n <;> simp [D.shp] at he; done)
    | skip
  · rename_i a b
    simp only [toPD, PyData.eqv, D.eqv]
    by_cases h : a = b
    · subst h; simp
    · have : sOf a ≠ sOf b := fun z => h (sOf_inj z)
      rw [beq_eq_false_iff_ne.mpr this, beq_eq_false_iff_ne.mpr h]
  · rename_i xs ys
    cases n with
    | zero => simp [D.shp] at hd
    | succ n => simp only [toPD, PyData.eqv, D.eqv]; exact toPDs_eqv n xs ys hd he
  · rename_i xs ys
    cases n with
    | zero => simp [D.shp] at hd
    | succ n => simp only [toPD, PyData.eqv, D.eqv]; exact toPDs_eqv n xs ys hd he
theorem toPDs_eqv : ∀ (n : Nat) (ds es : List D), D.shps n ds = true → D.shps n es = true → PyData.eqvAll (toPDs ds) (toPDs es) = D.eqvs ds es
  | n, [], [], _, _ => by simp [toPDs, PyData.eqvAll, D.eqvs]
  | n, [], _ :: _, _, _ => by simp [toPDs, PyData.eqvAll, D.eqvs]
  | n, _ :: _, [], _, _ => by simp [toPDs, PyData.eqvAll, D.eqvs]
  | n, d :: ds, e :: es, hd, he => by
    have hd : (D.shp n d && D.shps n ds) = true := by cases n <;> exact hd
    have he : (D.shp n e && D.shps n es) = true := by cases n <;> exact he
    rw [Bool.and_eq_true] at hd he
    simp only [toPDs, PyData.eqvAll, D.eqvs]
    rw [toPD_eqv n d e hd.1 he.1, toPDs_eqv n ds es hd.2 he.2]
end
section
variable {S : Inf} {H : Hp} {B : Bad} {Γ : List Addr}
mutual
theorem Rep.dp : ∀ {v : V} {d : D} (n : Nat), Rep S H B Γ v d → D.shp n d = true → Dp S.K H v (toPD d)
  | _, _, _, .non, _ => .non
  | _, _, _, .bl b, _ => .bl b
  | _, _, _, .int i, _ => .int i
  | _, _, _, .str l, _ => .str _
  | _, _, 0, .tup h r, e => by simp [D.shp] at e
  | _, _, n + 1, .tup h r, e => .tup h (Reps.dp n r e)
  | _, _, 0, .lst h nb r, e => by simp [D.shp] at e
  | _, _, n + 1, .lst h nb r, e => .lst (SqL.of h) (Reps.dp n r e)
  | _, _, n, .dic _ _ _ _, e => by cases n <;> simp [D.shp] at e
  | _, _, n, .fn f, e => by cases n <;> simp [D.shp] at e
  | _, _, n, .mref h, e => by cases n <;> simp [D.shp] at e
  | _, _, n, .scr h r, e => by cases n <;> simp [D.shp] at e
theorem Reps.dp : ∀ {vs : List V} {ds : List D} (n : Nat), Reps S H B Γ vs ds → D.shps n ds = true → DpAll S.K H vs (toPDs ds)
  | _, _, _, .nil, _ => .nil
  | _, _, n, .cons h r, e => by
    rename_i v vs d ds
    have e : (D.shp n d && D.shps n ds) = true := by cases n <;> exact e
    rw [Bool.and_eq_true] at e
    exact .cons (Rep.dp n h e.1) (Reps.dp n r e.2)
end
theorem shp2_ok {x y : D} (h : shp2 x y = true) : D.shp 60 x = true ∧ D.shp 60 y = true := Bool.and_eq_true_iff.mp h
theorem ite_some {α : Type} {c : Bool} {a d : α} (h : (if c then some a else none) = some d) : c = true ∧ a = d := by
  cases c with
  | true => exact ⟨rfl, Option.some.inj h⟩
  | false => cases h
theorem toPDs_eq : ∀ ds : List D, toPDs ds = ds.map toPD
  | [] => rfl
  | d :: ds => by rw [toPDs, toPDs_eq ds]; rfl
end

/-! ### the operations -/
section
variable {S : Inf} {X : Cx}
def rAddR (K : PySem.W.Frag) : R2 := fun x y H Q => (∃ i j, x = .int i ∧ y = .int j ∧ Q (.int (i + j)) H) ∨ (∃ i j, x = .str i ∧ y = .str j ∧ i.length + j.length ≤ sizeLine ∧ Q (.str (i ++ j)) H) ∨ rCatA K x y H Q ∨ rCat x y H Q ∨ ∃ b j, x = .bl b ∧ y = .int j ∧ Q (.int ((if b = true then (1 : Int) else 0) + j)) H
theorem op_addR : OpR X (binaryOp .Add) (rAddR X.K) := op_add.or (op_add_str.or (op_catA.or (op_cat.or op_add_bi)))
theorem ro_add : RO S (rAddR S.K) (op2 .add) := by
  intro H B Γ v1 v2 d1 d2 d Q ok r1 r2 e k
  cases r1 with
  | int i =>
    cases r2 with
    | int j => injection e with e; subst e; exact .inl ⟨i, j, rfl, rfl, k _ H (L2.Same.refl H) (.int _) trivial⟩
    | _ => cases e
  | str a =>
    cases r2 with
    | str b =>
      obtain ⟨hl, rfl⟩ := ite_some e
      have hl := Nat.le_of_ble_eq_true hl
      refine .inr (.inl ⟨_, _, rfl, rfl, ?_, ?_⟩)
      · rw [sOf_len, sOf_len]; exact Nat.le_trans hl lineN_le
      · rw [sOf_app]; exact k _ H (L2.Same.refl H) (.str _) trivial
    | _ => cases e
  | tup h1 q1 =>
    cases r2 with
    | tup h2 q2 =>
      obtain ⟨hl, rfl⟩ := ite_some e
      have hl := Nat.le_of_ble_eq_true hl
      refine .inr (.inr (.inl ⟨_, _, _, _, rfl, rfl, h1, h2, by rw [q1.length, q2.length]; exact Nat.le_trans hl lineN_le, fun z => ?_, fun z z2 => ?_, fun z z2 p hp => ?_⟩))
      · subst z; cases q1; exact k _ H (L2.Same.refl H) (.tup h2 q2) trivial
      · subst z2; cases q2; rw [List.append_nil] at k; exact k _ H (L2.Same.refl H) (.tup h1 q1) trivial
      · exact k _ _ (same_laid hp) (new_tup ok hp (q1.append q2)) trivial
    | _ => cases e
  | lst h1 n1 q1 =>
    cases r2 with
    | lst h2 n2 q2 =>
      obtain ⟨hl, rfl⟩ := ite_some e
      have hl := Nat.le_of_ble_eq_true hl
      refine .inr (.inr (.inr (.inl ⟨_, _, _, _, rfl, rfl, h1, h2, by rw [q1.length, q2.length]; exact Nat.le_trans hl lineN_le, fun p hp => ?_⟩)))
      obtain ⟨x1, x2⟩ := new_lst ok hp (q1.append q2)
      exact k _ _ (same_laid hp) x1 x2
    | _ => cases e
  | bl b =>
    cases r2 with
    | int j => injection e with e; subst e; exact .inr (.inr (.inr (.inr ⟨b, j, rfl, rfl, k _ H (L2.Same.refl H) (.int _) trivial⟩)))
    | _ => cases e
  | _ => cases r2 <;> cases e
def rSubR : R2 := fun x y H Q => rI0 (fun i j => .int (i - j)) x y H Q ∨ ∃ b j, x = .bl b ∧ y = .int j ∧ Q (.int ((if b = true then (1 : Int) else 0) - j)) H
theorem op_subR : OpR X (binaryOp .Sub) rSubR := op_sub.or op_sub_bi
theorem ro_sub : RO S rSubR (op2 .sub) := by
  intro H B Γ v1 v2 d1 d2 d Q ok r1 r2 e k
  cases r1 with
  | int i =>
    cases r2 with
    | int j => injection e with e; subst e; exact .inl ⟨i, j, rfl, rfl, k _ H (L2.Same.refl H) (.int _) trivial⟩
    | _ => cases e
  | bl b =>
    cases r2 with
    | int j => injection e with e; subst e; exact .inr ⟨b, j, rfl, rfl, k _ H (L2.Same.refl H) (.int _) trivial⟩
    | _ => cases e
  | _ => cases r2 <;> cases e
/-- * of ints whose product's bits are told -/
def CMulX (i j : Int) : Prop := mulOk i j = true
theorem CMulX.ok {i j : Int} (h : CMulX i j) : IntMulOk i j := by
  have b : ∀ x : Int, Builtin.Int.intBits x ≤ x.natAbs.log2 + 1 := fun x => by
    unfold Builtin.Int.intBits
    split <;> omega
  have h1 := b i
  have h2 := b j
  have h3 : i.natAbs.log2 + j.natAbs.log2 < 100000000 := Nat.le_of_ble_eq_true h
  exact IntMulOk.of_le h1 h2 (by omega)
theorem op_mulX : OpR X (binaryOp .Mult) (rI CMulX fun i j => .int (i * j)) := opI fun _ _ _ _ _ _ _ hc q => mul_int q hc.ok
/-- tuple * int: the same object -/
theorem tuple_mul_same (l : Addr) (items : Array Value) (n : Nat) (dd : Option Addr) (sl : Array (Option Value)) (x : Int) (u : Tok) (c0 : (decide (x < -(2 ^ 63)) || decide (x ≥ 2 ^ 63)) = false) (c1 : (items.isEmpty || x == 1) = true) :
    Meets (Builtin.«tuple.__mul__» ⟨[.ref l, .int x u], []⟩) (fun _ R s => s.heap.get? l = some { cls := .type "tuple", dict := dd, data := .seq items n, slots := sl } ∧ R (.ok (.ret (Value.ref l))) s) :=
  .of_wp fun prog w A R s h => by
    obtain ⟨hp, g, d, tk, os⟩ := s
    obtain ⟨hl, h⟩ := h
    have f1 := AutoSeq1.idx_int
    wp_walk using wpAny_loadPart' hl
    repeat (first
      | (refine wpAny_ite_false (decide_eq_false (by rw [c0]; exact Bool.false_ne_true)) ?_; wp_walk using wpAny_loadPart' hl)
      | (refine wpAny_ite_true (decide_eq_true c1) ?_; wp_walk using wpAny_loadPart' hl))
    exact ⟨_, rfl, h⟩
theorem tuple_mul_none (l : Addr) (items : Array Value) (n : Nat) (dd : Option Addr) (sl : Array (Option Value)) (x : Int) (u : Tok) (c0 : (decide (x < -(2 ^ 63)) || decide (x ≥ 2 ^ 63)) = false) (c1 : (items.isEmpty || x == 1) = false) (c2 : (decide (x ≤ 0) || items.isEmpty) = true) :
    Meets (Builtin.«tuple.__mul__» ⟨[.ref l, .int x u], []⟩) (fun _ R s => s.heap.get? l = some { cls := .type "tuple", dict := dd, data := .seq items n, slots := sl } ∧
      R (.ok (.ret (Value.ref s.heap.objs.size))) { s with heap := s.heap.push { cls := Value.type "tuple", data := Data.seq #[] }, toks := s.toks }) :=
  .of_wp fun prog w A R s h => by
    obtain ⟨hp, g, d, tk, os⟩ := s
    obtain ⟨hl, h⟩ := h
    have f1 := AutoSeq1.idx_int
    wp_walk using wpAny_loadPart' hl
    repeat (first
      | (refine wpAny_ite_false (decide_eq_false (by rw [c0]; exact Bool.false_ne_true)) ?_; wp_walk using wpAny_loadPart' hl)
      | (refine wpAny_ite_false (decide_eq_false (by rw [c1]; exact Bool.false_ne_true)) ?_; wp_walk using wpAny_loadPart' hl)
      | (refine wpAny_ite_true (decide_eq_true c2) ?_; wp_walk using wpAny_loadPart' hl)
      | (refine wpAny_ite_false (decide_eq_false (Nat.not_lt.mpr (Nat.zero_le _))) ?_; wp_walk using wpAny_loadPart' hl))
    exact ⟨_, rfl, h⟩
/-- t * k of any k -/
def rRepA (K : PySem.W.Frag) : R2 := fun x y H Q => ∃ l k xs, x = .ref l ∧ y = .int k ∧ SqT K H l xs ∧ -(2 ^ 62) ≤ k ∧ k < 2 ^ 62 ∧ xs.length * k.toNat ≤ 1000000 ∧
  (xs = [] ∨ k = 1 → Q (.ref l) H) ∧ (xs ≠ [] → k ≠ 1 → ∀ p, H p = none → Q (.ref p) (upd H p (.tup (List.replicate k.toNat xs).flatten)))
theorem op_repA : OpR X (binaryOp .Mult) (rRepA X.K) := by
  intro pins s σ H x y v u Q I rx ry h
  obtain ⟨l, k, xs, rfl, rfl, hT, h1, h2, hz, q0, q1⟩ := h
  cases rx
  obtain ⟨t, rfl⟩ := ry
  obtain ⟨its, r, ⟨⟨cls, dd, data, sl⟩, ho, hc, n, hd⟩, hs⟩ := I.tuple hT
  simp only at hc hd
  subst hc hd
  have hle : its.length = xs.length := r.length.symm
  have c0 : (decide (k < -(2 ^ 63)) || decide (k ≥ 2 ^ 63)) = false := by
    rw [decide_eq_false (by omega), decide_eq_false (by omega)] <;> rfl
  have c3 : ¬ ((its.toArray.size : Nat) : Int) * k > (2 ^ 63 - 1) / 8 := by
    have e1 : its.toArray.size = xs.length := by rw [List.size_toArray, hle]
    rw [e1]
    by_cases hk : 0 ≤ k
    · have e2 : ((xs.length * k.toNat : Nat) : Int) = (xs.length : Int) * k := by rw [Int.natCast_mul, Int.toNat_of_nonneg hk]
      omega
    · have : (xs.length : Int) * k ≤ 0 := Int.mul_nonpos_of_nonneg_of_nonpos (by omega) (by omega)
      omega
  have c4 : Builtin.Tuple.tupleTooMany (((its.toArray.size : Nat) : Int) * k) = false := by
    have e1 : its.toArray.size = xs.length := by rw [List.size_toArray, hle]
    unfold Builtin.Tuple.tupleTooMany
    rw [sizeLine_eq, e1]
    refine decide_eq_false ?_
    by_cases hk : 0 ≤ k
    · have e2 : ((xs.length * k.toNat : Nat) : Int) = (xs.length : Int) * k := by rw [Int.natCast_mul, Int.toNat_of_nonneg hk]
      omega
    · have : (xs.length : Int) * k ≤ 0 := Int.mul_nonpos_of_nonneg_of_nonpos (by omega) (by omega)
      omega
  have flen : (List.replicate k.toNat its).flatten.length ≤ sizeLine := by
    rw [PyProof.Rows.lm_len_rep_flat, hle, sizeLine_eq, Nat.mul_comm]
    omega
  refine wpAny_binaryOp_repeat_ref (T := "tuple") (U := "int") (by decide) ⟨_, ho, rfl⟩ (fun s' => typeIs_int s' k t) noFill_tuple_mul F.fills_int_mul F.slot_int_rmul repeat_tuple F.slot_int_index.lookup
    (call_meets F.slot_int_rmul (typeIs_int s k t) F.entry_int_rmul (F.args_int_rmul_2 _ _) (int_rmul_tuple k t l its.toArray n dd sl)
      ⟨ho, rfl, ⟨_, ho, rfl⟩, ?_⟩)
  have iT : s.heap.get? l = some { cls := .type "tuple", dict := dd, data := .seq its.toArray n, slots := sl } := ho
  by_cases c1 : (its.toArray.isEmpty || k == 1) = true
  · refine call_meets F.slot_tuple_mul ⟨_, ho, rfl⟩ F.entry_tuple_mul (F.args_tuple_mul_2 _ _) (tuple_mul_same l its.toArray n dd sl k t c0 c1) ⟨ho, ?_⟩
    refine ⟨.ref l, H, I, rfl, q0 ?_⟩
    rw [Bool.or_eq_true] at c1
    rcases c1 with c1 | c1
    · left
      have : its = [] := by simpa using c1
      rw [this] at hle
      exact List.eq_nil_of_length_eq_zero hle.symm
    · exact .inr (by simpa using c1)
  · have c1 : (its.toArray.isEmpty || k == 1) = false := by simpa using c1
    have hi : its.toArray.isEmpty = false := (Bool.or_eq_false_iff.mp c1).1
    have hk1 : k ≠ 1 := by simpa using (Bool.or_eq_false_iff.mp c1).2
    have hne : xs ≠ [] := fun z => by
      subst z
      have : its = [] := List.eq_nil_of_length_eq_zero hle
      subst this
      simp at hi
    by_cases hk : k ≤ 0
    · refine call_meets F.slot_tuple_mul ⟨_, ho, rfl⟩ F.entry_tuple_mul (F.args_tuple_mul_2 _ _) (tuple_mul_none l its.toArray n dd sl k t c0 c1 (by rw [decide_eq_true hk]; rfl)) ⟨ho, ?_⟩
      have e0 : k.toNat = 0 := by omega
      refine ⟨.ref s.heap.objs.size, _, I.laid (t' := s.toks) (o := .tup (List.replicate k.toNat xs).flatten) (fun b ob q => Heap.get?_push_of_some _ q) (Nat.le_refl _) ?_, rfl, q1 hne hk1 _ (I.hok.fresh (Nat.le_refl _))⟩
      rw [e0]
      exact ⟨Nat.zero_le _, [], .nil, IsTup.new _ _⟩
    · have c2 : (decide (k ≤ 0) || its.toArray.isEmpty) = false := by rw [hi, Bool.or_false]; exact decide_eq_false hk
      refine call_meets F.slot_tuple_mul ⟨_, ho, rfl⟩ F.entry_tuple_mul (F.args_tuple_mul_2 _ _) (tuple_mulW l its.toArray n dd sl k t c0 c1 c2 c3 c4 (by rw [size_rep, List.size_toArray]; exact flen)) ⟨ho, ?_⟩
      rw [size_rep]
      refine ⟨.ref s.heap.objs.size, _, I.laid (t' := s.toks) (o := .tup (List.replicate k.toNat xs).flatten) (fun b ob q => Heap.get?_push_of_some _ q) (Nat.le_refl _) ?_, rfl, q1 hne hk1 _ (I.hok.fresh (Nat.le_refl _))⟩
      exact ⟨by rw [PyProof.Rows.lm_len_rep_flat, sizeLine_eq, Nat.mul_comm]; omega, _, r.rep k.toNat, IsTup.new _ _⟩
def rMulR (K : PySem.W.Frag) : R2 := fun x y H Q => rI CMulX (fun i j => .int (i * j)) x y H Q ∨ rRepA K x y H Q ∨ rRep x y H Q
theorem op_mulR : OpR X (binaryOp .Mult) (rMulR X.K) := op_mulX.or (op_repA.or op_rep)
theorem shortI_ok {k : Int} (h : shortI k = true) : -(2 ^ 62) ≤ k ∧ k < 2 ^ 62 := by
  unfold shortI at h
  rw [Bool.and_eq_true] at h
  exact ⟨of_decide_eq_true h.1, of_decide_eq_true h.2⟩
theorem ro_mul : RO S (rMulR S.K) (op2 .mul) := by
  intro H B Γ v1 v2 d1 d2 d Q ok r1 r2 e k
  cases r1 with
  | int i =>
    cases r2 with
    | int j =>
      obtain ⟨hm, rfl⟩ := ite_some e
      exact .inl ⟨i, j, rfl, rfl, hm, k _ H (L2.Same.refl H) (.int _) trivial⟩
    | _ => cases e
  | tup h1 q1 =>
    cases r2 with
    | int j =>
      rename_i a vs ds
      obtain ⟨hm, rfl⟩ := ite_some e
      rw [Bool.and_eq_true] at hm
      obtain ⟨b1, b2⟩ := shortI_ok hm.1
      have hz : ds.length * j.toNat ≤ lineN := Nat.le_of_ble_eq_true hm.2
      refine .inr (.inl ⟨_, j, _, rfl, rfl, h1, b1, b2, by rw [q1.length]; exact hz, fun z => ?_, fun z z2 p hp => ?_⟩)
      · have r := q1.rep j.toNat
        have ee : (List.replicate j.toNat vs).flatten = vs := by
          rcases z with z | z
          · subst z; simp
          · subst z; simp
        rw [ee] at r
        exact k _ H (L2.Same.refl H) (.tup h1 r) trivial
      · exact k _ _ (same_laid hp) (new_tup ok hp (q1.rep j.toNat)) trivial
    | _ => cases e
  | lst h1 n1 q1 =>
    cases r2 with
    | int j =>
      rename_i a vs ds
      obtain ⟨hm, rfl⟩ := ite_some e
      rw [Bool.and_eq_true] at hm
      obtain ⟨b1, b2⟩ := shortI_ok hm.1
      have hz : ds.length * j.toNat ≤ lineN := Nat.le_of_ble_eq_true hm.2
      refine .inr (.inr ⟨_, j, _, rfl, rfl, h1, by omega, by omega, by rw [q1.length]; exact Nat.le_trans hz lineN_le, fun p hp => ?_⟩)
      obtain ⟨x1, x2⟩ := new_lst ok hp (q1.rep j.toNat)
      exact k _ _ (same_laid hp) x1 x2
    | _ => cases e
  | _ => cases r2 <;> cases e
/-- // of great ints, any sign -/
def CDivX (i j : Int) : Prop := divOk i j = true
theorem noPy {x y : Int} (h : x.natAbs.log2 < y.natAbs.log2 + 4400) (h0 : y ≠ 0) : Builtin.divisionGoesByPylong x y = false := by
  have e1 : (if y == 0 then 0 else y.natAbs.log2 / 30 + 1) = y.natAbs.log2 / 30 + 1 := if_neg (by simpa using h0)
  have e2 : (if x == 0 then 0 else x.natAbs.log2 / 30 + 1) ≤ x.natAbs.log2 / 30 + 1 := by
    split
    · exact Nat.zero_le _
    · exact Nat.le_refl _
  have e3 : decide ((if x == 0 then 0 else x.natAbs.log2 / 30 + 1) > (if y == 0 then 0 else y.natAbs.log2 / 30 + 1) + 150) = false := decide_eq_false (by rw [e1]; omega)
  show (_ && decide ((if x == 0 then 0 else x.natAbs.log2 / 30 + 1) > (if y == 0 then 0 else y.natAbs.log2 / 30 + 1) + 150)) = false
  exact (congrArg (Bool.and _) e3).trans (Bool.and_false _)
theorem op_fdivX : OpR X (binaryOp .FloorDiv) (rI CDivX fun i j => .int (i.fdiv j)) := opI fun i j _ _ _ _ _ hc q => by
  unfold CDivX divOk at hc
  rw [Bool.and_eq_true, Bool.or_eq_true] at hc
  have h0 : j ≠ 0 := by simpa using hc.1
  rcases hc.2 with h | h
  · exact floordiv_int h0 q (.inl (PyProof.noPylong_of_log2 (Nat.le_of_ble_eq_true h)))
  · exact floordiv_int h0 q (.inl (noPy (Nat.le_of_ble_eq_true h) h0))
theorem ro_fdiv : RO S (rI CDivX fun i j => .int (i.fdiv j)) (op2 .fdiv) := by
  intro H B Γ v1 v2 d1 d2 d Q ok r1 r2 e k
  cases r1 with
  | int i =>
    cases r2 with
    | int j =>
      obtain ⟨hm, rfl⟩ := ite_some e
      exact ⟨i, j, rfl, rfl, hm, k _ H (L2.Same.refl H) (.int _) trivial⟩
    | _ => cases e
  | _ => cases r2 <;> cases e
theorem ro_mod : RO S (rI (fun _ j => j ≠ 0) fun i j => .int (i.fmod j)) (op2 .mod) := by
  intro H B Γ v1 v2 d1 d2 d Q ok r1 r2 e k
  cases r1 with
  | int i =>
    cases r2 with
    | int j =>
      have e : (if (j == 0) = true then none else some (D.int (i.fmod j))) = some d := e
      by_cases hj : (j == 0) = true
      · rw [if_pos hj] at e; cases e
      · rw [if_neg hj] at e
        injection e with e; subst e
        exact ⟨i, j, rfl, rfl, by simpa using hj, k _ H (L2.Same.refl H) (.int _) trivial⟩
    | _ => cases e
  | _ => cases r2 <;> cases e
theorem ro_pow : RO S (rI CPow fun i j => .int (i ^ j.toNat)) (op2 .pow) := by
  intro H B Γ v1 v2 d1 d2 d Q ok r1 r2 e k
  cases r1 with
  | int i =>
    cases r2 with
    | int j =>
      obtain ⟨hm, rfl⟩ := ite_some e
      unfold powOk at hm
      rw [Bool.and_eq_true, Bool.and_eq_true] at hm
      have a1 := of_decide_eq_true hm.1.1
      have a2 := of_decide_eq_true hm.1.2
      have a3 : i.natAbs < 18446744073709551616 := Nat.le_of_ble_eq_true hm.2
      exact ⟨i, j, rfl, rfl, ⟨a1, by omega, a3⟩, k _ H (L2.Same.refl H) (.int _) trivial⟩
    | _ => cases e
  | _ => cases r2 <;> cases e
theorem ro_eq : RO S (rEqD S.K) (op2 .eq) := by
  intro H B Γ v1 v2 d1 d2 d Q ok r1 r2 e k
  obtain ⟨hm, rfl⟩ := ite_some e
  obtain ⟨s1, s2⟩ := shp2_ok hm
  refine ⟨toPD d1, toPD d2, r1.dp 60 s1, r2.dp 60 s2, toPD_shaped s1, toPD_shaped s2, ?_⟩
  rw [toPD_eqv 60 d1 d2 s1 s2]
  exact k _ H (L2.Same.refl H) (.bl _) trivial
theorem ro_ne : RO S (rNeD S.K) (op2 .ne) := by
  intro H B Γ v1 v2 d1 d2 d Q ok r1 r2 e k
  obtain ⟨hm, rfl⟩ := ite_some e
  obtain ⟨s1, s2⟩ := shp2_ok hm
  refine ⟨toPD d1, toPD d2, r1.dp 60 s1, r2.dp 60 s2, toPD_shaped s1, toPD_shaped s2, ?_⟩
  rw [toPD_eqv 60 d1 d2 s1 s2]
  exact k _ H (L2.Same.refl H) (.bl _) trivial
theorem ro_cmp {o : Op} {f : Int → Int → Bool} (h1 : ∀ i j, op2 o (.int i) (.int j) = some (.bl (f i j))) (h2 : ∀ x y d, op2 o x y = some d → (∃ i, x = .int i) ∧ ∃ j, y = .int j) : RO S (rI0 fun i j => .bl (f i j)) (op2 o) := by
  intro H B Γ v1 v2 d1 d2 d Q ok r1 r2 e k
  obtain ⟨⟨i, rfl⟩, ⟨j, rfl⟩⟩ := h2 _ _ _ e
  rw [h1] at e
  injection e with e; subst e
  cases r1
  cases r2
  exact ⟨i, j, rfl, rfl, k _ H (L2.Same.refl H) (.bl _) trivial⟩
theorem ro_lt : RO S (rI0 fun i j => .bl (decide (i < j))) (op2 .lt) := ro_cmp (fun _ _ => rfl) fun x y d e => by cases x <;> cases y <;> first | exact ⟨⟨_, rfl⟩, ⟨_, rfl⟩⟩ | cases e
theorem ro_le : RO S (rI0 fun i j => .bl (decide (i ≤ j))) (op2 .le) := ro_cmp (fun _ _ => rfl) fun x y d e => by cases x <;> cases y <;> first | exact ⟨⟨_, rfl⟩, ⟨_, rfl⟩⟩ | cases e
theorem ro_gt : RO S (rI0 fun i j => .bl (decide (j < i))) (op2 .gt) := ro_cmp (fun _ _ => rfl) fun x y d e => by cases x <;> cases y <;> first | exact ⟨⟨_, rfl⟩, ⟨_, rfl⟩⟩ | cases e
theorem ro_ge : RO S (rI0 fun i j => .bl (decide (j ≤ i))) (op2 .ge) := ro_cmp (fun _ _ => rfl) fun x y d e => by cases x <;> cases y <;> first | exact ⟨⟨_, rfl⟩, ⟨_, rfl⟩⟩ | cases e
/-- is None, is not None -/
theorem ro_is : RO S (fun x y H Q => y = .non ∧ Q (.bl (decide (x = .non))) H) (op2 .is_) := by
  intro H B Γ v1 v2 d1 d2 d Q ok r1 r2 e k
  cases r2 with
  | non =>
    refine ⟨rfl, ?_⟩
    cases r1 <;> (injection e with e; subst e; first | exact k _ H (L2.Same.refl H) (.bl true) trivial | exact k _ H (L2.Same.refl H) (.bl false) trivial)
  | _ => cases r1 <;> cases e
theorem ro_isnt : RO S (fun x y H Q => y = .non ∧ Q (.bl (!decide (x = .non))) H) (op2 .isnt) := by
  intro H B Γ v1 v2 d1 d2 d Q ok r1 r2 e k
  cases r2 with
  | non =>
    refine ⟨rfl, ?_⟩
    cases r1 <;> (injection e with e; subst e; first | exact k _ H (L2.Same.refl H) (.bl true) trivial | exact k _ H (L2.Same.refl H) (.bl false) trivial)
  | _ => cases r1 <;> cases e
end
end Rz

/-! RzS4 -/
set_option Elab.async false
set_option linter.all false
set_option maxRecDepth 100000
set_option maxHeartbeats 4000000
namespace Rz
open PySem PySem.Spec PyProof.Rows L2

/-! ### sources that are walked: a list, a tuple -/
inductive Src where
  | l (a : Addr)
  | t (a : Addr)
def Src.ad : Src → Addr
  | .l a => a
  | .t a => a
def Src.Sq (K : PySem.W.Frag) (H : Hp) : Src → List V → Prop
  | .l a, xs => SqL K H a xs
  | .t a, xs => SqT K H a xs
def Src.It (h : Heap) (it : Addr) (i : Nat) : Src → Prop
  | .l a => h.IsListIter it a i
  | .t a => h.IsTupleIter it a i
def Src.At (h : Heap) (its : Array Value) : Src → Prop
  | .l a => h.IsList a its
  | .t a => h.IsTuple a its
def Src.obj : Src → Obj
  | .l a => { cls := .type "list_iterator", data := .fields #[.ref a, .int 0 0] }
  | .t a => { cls := .type "tuple_iterator", data := .fields #[.ref a, .int 0 0] }
section
variable {X : Cx} {pins : List (Addr × Obj)} {σ : L2.St} {H : Hp} {s : Shared} {prog : Program} {w : World} {A : Around}
theorem Src.read (I : L2.Inv X pins σ H s) {c : Src} {xs : List V} (h : c.Sq X.K H xs) : ∃ its : List Value, Vals xs its ∧ c.At s.heap its.toArray ∧ xs.length ≤ sizeLine ∧ c.ad < s.heap.objs.size := by
  cases c with
  | l a =>
    obtain ⟨its, r, p, z⟩ := I.list h
    exact ⟨its, r, p.isList, z, p.lt⟩
  | t a =>
    obtain ⟨its, r, p, z⟩ := I.tuple h
    exact ⟨its, r, p, z, p.lt⟩
theorem Src.inj (I : L2.Inv X pins σ H s) {c : Src} {xs ys : List V} (h : c.Sq X.K H xs) (h' : c.Sq X.K H ys) : xs = ys := by
  cases c with
  | l a => exact I.list_inj h h'
  | t a => exact I.tuple_inj h h'
theorem Src.draws (hh : A.handled = none) (c : Src) (it : Addr) (hne : c.ad ≠ it) (its : Array Value) :
    Draws prog w A it [it, c.ad] its.size (fun i v => its[i]? = some v) (fun i h => c.It h it i ∧ c.At h its) := by
  cases c with
  | l a => exact Draws.list hh it a hne its
  | t a => exact Draws.tuple hh it a hne its
theorem Src.begins (c : Src) (its : Array Value) : Begins (.ref c.ad) c.obj fun h => c.At h its := by
  cases c with
  | l a => exact begins_list a its
  | t a => exact begins_tuple a its
theorem Src.It.rec_ {h : Heap} {it : Addr} {i : Nat} {c : Src} (x : c.It h it i) : ∃ o, h.get? it = some o ∧ ∀ v, o.data ≠ .cell v := by
  cases c with
  | l a => obtain ⟨o, e, _, d⟩ := x; exact ⟨o, e, fun v q => by rw [d] at q; cases q⟩
  | t a => obtain ⟨o, e, _, d⟩ := x; exact ⟨o, e, fun v q => by rw [d] at q; cases q⟩
theorem Src.It.at_ {h h' : Heap} {it : Addr} {i : Nat} {c : Src} (x : c.It h it i) (k : ∀ o, h.get? it = some o → h'.get? it = some o) : c.It h' it i := by
  cases c with
  | l a => exact Heap.IsListIter.at x k
  | t a => exact Heap.IsTupleIter.at x k
theorem Src.first {h : Heap} {it : Addr} (c : Src) (e : h.get? it = some c.obj) : c.It h it 0 := by
  cases c with
  | l a => exact ⟨_, e, rfl, rfl⟩
  | t a => exact ⟨_, e, rfl, rfl⟩
end

/-! ### zip of two sources -/
def ItzS (K : PySem.W.Frag) (c d : Src) : L2.It :=
  ⟨fun i H => ∃ (xs ys : List V) (x y : V), c.Sq K H xs ∧ d.Sq K H ys ∧ xs[i]? = some x ∧ ys[i]? = some y,
    fun i H v H' => ∃ T x y, v = .ref T ∧ H T = none ∧ H' = upd H T (.tup [x, y]) ∧ (∀ xs, c.Sq K H xs → xs[i]? = some x) ∧ ∀ ys, d.Sq K H ys → ys[i]? = some y,
    fun i H => ∃ xs ys : List V, c.Sq K H xs ∧ d.Sq K H ys ∧ i = min xs.length ys.length⟩
/-- the cells of a zip made at n, its sources older -/
structure ZAt (n z TI TO i1 i2 : Addr) (c d : Src) : Prop where
  z : z = n + 4
  TI : TI = n + 2
  TO : TO = n + 3
  i1 : i1 = n
  i2 : i2 = n + 1
  c : c.ad < n
  d : d.ad < n
theorem n_notin {x a b : Nat} (h1 : x ≠ a) (h2 : x ≠ b) : x ∉ [a, b] := by
  simp only [List.mem_cons, List.not_mem_nil, or_false]
  omega
theorem n_nea {n k a : Nat} (h : a < n) : n + k ≠ a := by omega
theorem n_neb {n a : Nat} (h : a < n) : n ≠ a := by omega
theorem n_nec {n j k : Nat} (h : j ≠ k) : n + j ≠ n + k := by omega
theorem n_ned {n j : Nat} (h : 0 < j) : n + j ≠ n := by omega
theorem nz_sep (n c d : Nat) (hc : c < n) (hd : d < n) : @ZipSep2 (n + 4) (n + 2) (n + 3) n (n + 1) [n, c] [n + 1, d] where
  TIz := n_nec (by decide)
  TOz := n_nec (by decide)
  TITO := n_nec (by decide)
  TIi1 := n_ned (by decide)
  mem1 := by simp
  zf1 := n_notin (n_ned (by decide)) (n_nea hc)
  Tf1 := n_notin (n_ned (by decide)) (n_nea hc)
  TIi2 := n_nec (by decide)
  mem2 := by simp
  zf2 := n_notin (n_nec (by decide)) (n_nea hd)
  Tf2 := n_notin (n_nec (by decide)) (n_nea hd)
  sep1_2 := n_notin (Ne.symm (n_ned (by decide))) (n_neb hd)
  sep2_1 := n_notin (n_ned (by decide)) (n_nea hc)
theorem ZAt.sep {n z TI TO i1 i2 : Addr} {c d : Src} (Z : ZAt n z TI TO i1 i2 c d) : ZipSep2 z TI TO i1 i2 [i1, c.ad] [i2, d.ad] := by
  obtain ⟨rfl, rfl, rfl, rfl, rfl, hc, hd⟩ := Z
  exact nz_sep _ _ _ hc hd
theorem n_ne1 {a n i : Nat} (h : a < n) (e : i = n) : a ≠ i := by omega
theorem n_ne2 {a n i : Nat} (h : a < n) (e : i = n + 1) : a ≠ i := by omega
theorem n_ne3 {e it : Nat} (h : e = it + 1) : e ≠ it := by omega
theorem n_ne4 {e it a : Nat} (h : e = it + 1) (h2 : a < it) : e ∉ [it, a] := by
  simp only [List.mem_cons, List.not_mem_nil, or_false]
  omega
theorem turn_zipS {P : Program} {w : World} {K : PySem.W.Frag} {elts : List Expr} {kk : Nat} {tpos : Pos} {n z TI TO i1 i2 : Addr} {c d : Src} (Z : ZAt n z TI TO i1 i2 c d) :
    Turn P w K (.Tuple elts kk tpos) (ItzS K c d) [z, TI, TO, i1, i2] z
      (fun i h => IsZip h z TI TO .none ∧ IsTupOf2 h TI (.ref i1) (.ref i2) ∧ (∃ x y, IsTupOf2 h TO x y) ∧ c.It h i1 i ∧ d.It h i2 i) where
  mem := by simp
  obj := fun i h st b hb => by
    obtain ⟨hz, hTI, ⟨x, y, hTO⟩, h1, h2⟩ := st
    have e' : b = z ∨ b = TI ∨ b = TO ∨ b = i1 ∨ b = i2 := by simpa using hb
    rcases e' with q | q | q | q | q
    · rw [q]; exact ⟨_, hz, fun v q => nomatch q⟩
    · rw [q]; exact ⟨_, hTI, fun v q => nomatch q⟩
    · rw [q]; exact ⟨_, hTO, fun v q => nomatch q⟩
    · rw [q]; exact h1.rec_
    · rw [q]; exact h2.rec_
  keep := fun i h h' st k => by
    obtain ⟨hz, hTI, ⟨x, y, hTO⟩, h1, h2⟩ := st
    exact ⟨k z (by simp) _ hz, k TI (by simp) _ hTI, ⟨x, y, k TO (by simp) _ hTO⟩, h1.at_ fun o q => k i1 (by simp) o q, h2.at_ fun o q => k i2 (by simp) o q⟩
  item := by
    intro X hP hw hK hc i pins s σ H E I hf st hg
    subst hP hw hK
    obtain ⟨xs, ys, x, y, hqx, hqy, hx, hy⟩ := hg
    obtain ⟨its, rv, p, _, _⟩ := Src.read I hqx
    obtain ⟨its2, rv2, p2, _, _⟩ := Src.read I hqy
    obtain ⟨u, hu, ru⟩ := rv.get hx
    obtain ⟨u2, hu2, ru2⟩ := rv2.get hy
    obtain ⟨hz, hTI, hTO, h1, h2⟩ := st
    have hh : X.A.in1.handled = none := I.ok.hd hc
    have G := GoesN.zip2 (prog := X.prog) (w := X.w) (A := X.A) (elts := elts) (x1 := kk) (pos := tpos) Z.sep
      (Src.draws hh c i1 (n_ne1 Z.c Z.i1) its.toArray)
      (Src.draws hh d i2 (n_ne2 Z.d Z.i2) its2.toArray)
    have hi : i < min its.toArray.size its2.toArray.size := by
      have a1 : i < its.length := (List.getElem?_eq_some_iff.mp hu).1
      have a2 : i < its2.length := (List.getElem?_eq_some_iff.mp hu2).1
      simp only [List.size_toArray]
      omega
    refine G.goes i s _ E hi ⟨hz, hTI, hTO, ⟨h1, p⟩, ⟨h2, p2⟩⟩ fun v h' tk ⟨T, a, b, ev, hn, ea, eb, hT⟩ ⟨z', TI', TO', ⟨h1', _⟩, ⟨h2', _⟩⟩ hk _ => ?_
    have ea' : a = u := by
      have : its[i]? = some a := by simpa using ea
      rw [hu] at this; exact (Option.some.inj this).symm
    have eb' : b = u2 := by
      have : its2[i]? = some b := by simpa using eb
      rw [hu2] at this; exact (Option.some.inj this).symm
    subst ea' eb' ev
    have new : ObjOk X.prog X.w (upd H T (.tup [x, y])) h' T (.tup [x, y]) := ⟨by show 2 ≤ sizeLine; decide, [a, b], .cons ru (.cons ru2 .nil), hT⟩
    have I1 : L2.Inv X pins σ (upd H T (.tup [x, y])) { s with heap := h', toks := tk } :=
      I.turnedNew (ch := [z, TI, TO, i1, i2]) (fun c o hb q => hk c o (fun q' => hb (by
        simp only [List.mem_cons, List.not_mem_nil, or_false] at q' ⊢
        rcases q' with q' | q' | q' | q' <;> simp [q'])) q) hf hn new
    refine ⟨.ref T, _, I1, rfl, ⟨T, x, y, rfl, I.hok.fresh hn, rfl, fun l hl => by rw [Src.inj I hl hqx]; exact hx, fun l hl => by rw [Src.inj I hl hqy]; exact hy⟩, ⟨z', TI', TO', h1', h2'⟩, fun b hb => ?_⟩
    have hlt : b < s.heap.objs.size := by
      have e' : b = z ∨ b = TI ∨ b = TO ∨ b = i1 ∨ b = i2 := by simpa using hb
      obtain ⟨x0, y0, hTO⟩ := hTO
      rcases e' with q | q | q | q | q
      · rw [q]; exact Heap.lt_size hz
      · rw [q]; exact Heap.lt_size hTI
      · rw [q]; exact Heap.lt_size hTO
      · rw [q]; obtain ⟨_, e1, _⟩ := h1.rec_; exact Heap.lt_size e1
      · rw [q]; obtain ⟨_, e2, _⟩ := h2.rec_; exact Heap.lt_size e2
    rw [upd_ne (Nat.ne_of_lt (Nat.lt_of_lt_of_le hlt hn))]
    exact (hf b hb).1
  done := by
    intro X hP hw hK hc i pins s σ H E I hf st hg
    subst hP hw hK
    obtain ⟨xs, ys, hqx, hqy, hend⟩ := hg
    obtain ⟨its, rv, p, _, _⟩ := Src.read I hqx
    obtain ⟨its2, rv2, p2, _, _⟩ := Src.read I hqy
    obtain ⟨hz, hTI, hTO, h1, h2⟩ := st
    have hh : X.A.in1.handled = none := I.ok.hd hc
    have G := GoesN.zip2 (prog := X.prog) (w := X.w) (A := X.A) (elts := elts) (x1 := kk) (pos := tpos) Z.sep
      (Src.draws hh c i1 (n_ne1 Z.c Z.i1) its.toArray)
      (Src.draws hh d i2 (n_ne2 Z.d Z.i2) its2.toArray)
    have hn : i = min its.toArray.size its2.toArray.size := by
      rw [List.size_toArray, List.size_toArray, ← rv.length, ← rv2.length]; exact hend
    subst hn
    exact G.stops s (fun s1 => L2.Inv X pins σ H s1) E ⟨hz, hTI, hTO, ⟨h1, p⟩, ⟨h2, p2⟩⟩ fun h' tk hk _ => I.turnedL (ch := [z, TI, TO, i1, i2]) (fun c o hb q => hk c o (fun q' => hb (by
        simp only [List.mem_cons, List.not_mem_nil, or_false] at q' ⊢
        rcases q' with q' | q' | q' | q' <;> simp [q'])) q) hf
  self := fun A i s Q E st h => wpAny_pyIter_zip st.1 h

/-! ### enumerate of a source -/
def IteS (K : PySem.W.Frag) (c : Src) : L2.It :=
  ⟨fun i H => ∃ (xs : List V) (x : V), c.Sq K H xs ∧ xs[i]? = some x,
    fun i H v H' => ∃ T x, v = .ref T ∧ H T = none ∧ H' = upd H T (.tup [.int (i : Nat), x]) ∧ ∀ xs, c.Sq K H xs → xs[i]? = some x,
    fun i H => ∃ xs : List V, c.Sq K H xs ∧ i = xs.length⟩
theorem turn_enumS {P : Program} {w : World} {K : PySem.W.Frag} {elts : List Expr} {kk : Nat} {tpos : Pos} {e it : Addr} {c : Src} (h1 : e = it + 1) (h2 : c.ad < it) :
    Turn P w K (.Tuple elts kk tpos) (IteS K c) [e, it] e (fun i h => (∃ old, IsEnum h e it ((i : Nat) : Int) old) ∧ c.It h it i) where
  mem := by simp
  obj := fun i h st b hb => by
    obtain ⟨⟨old, he⟩, h1⟩ := st
    have e' : b = e ∨ b = it := by simpa using hb
    rcases e' with z | z
    · rw [z]; exact ⟨_, he, fun v q => nomatch q⟩
    · rw [z]; exact h1.rec_
  keep := fun i h h' st k => let ⟨⟨old, he⟩, hi⟩ := st; ⟨⟨old, k e (by simp) _ he⟩, hi.at_ fun o q => k it (by simp) o q⟩
  item := by
    intro X hP hw hK hc i pins s σ H E I hf st hg
    subst hP hw hK
    obtain ⟨xs, x, hqx, hx⟩ := hg
    obtain ⟨its, rv, p, _, _⟩ := Src.read I hqx
    obtain ⟨u, hu, ru⟩ := rv.get hx
    obtain ⟨⟨old, he⟩, hit⟩ := st
    have hh : X.A.in1.handled = none := I.ok.hd hc
    have ne1 : c.ad ≠ it := n_ne1 h2 rfl
    have G := GoesN.enumFrom (prog := X.prog) (w := X.w) (A := X.A) (elts := elts) (x1 := kk) (pos := tpos) 0 (Src.draws hh c it ne1 its.toArray) e (n_ne3 h1)
      (n_ne4 h1 h2) (by simp)
    have hi : i < its.toArray.size := by
      have a1 : i < its.length := (List.getElem?_eq_some_iff.mp hu).1
      simpa using a1
    refine G.goes i s _ E hi ⟨⟨old, by rw [Int.zero_add]; exact he⟩, ⟨hit, p⟩⟩ fun v h' tk ⟨T, t, a, ev, hn, ea, hT⟩ ⟨⟨old', he'⟩, ⟨hit', _⟩⟩ hk _ => ?_
    have ea' : a = u := by
      have : its[i]? = some a := by simpa using ea
      rw [hu] at this; exact (Option.some.inj this).symm
    subst ea' ev
    rw [Int.zero_add] at hT he'
    have new : ObjOk X.prog X.w (upd H T (.tup [.int (i : Nat), x])) h' T (.tup [.int (i : Nat), x]) := ⟨by show 2 ≤ sizeLine; decide, [.int (i : Nat) t, a], .cons ⟨_, rfl⟩ (.cons ru .nil), hT⟩
    have I1 : L2.Inv X pins σ (upd H T (.tup [.int (i : Nat), x])) { s with heap := h', toks := tk } :=
      I.turnedNew (ch := [e, it]) (fun c o hb q => hk c o hb q) hf hn new
    refine ⟨.ref T, _, I1, rfl, ⟨T, x, rfl, I.hok.fresh hn, rfl, fun l hl => by rw [Src.inj I hl hqx]; exact hx⟩, ⟨⟨old', he'⟩, hit'⟩, fun b hb => ?_⟩
    have hlt : b < s.heap.objs.size := by
      have e' : b = e ∨ b = it := by simpa using hb
      rcases e' with q | q
      · rw [q]; exact Heap.lt_size he
      · rw [q]; obtain ⟨_, e1, _⟩ := hit.rec_; exact Heap.lt_size e1
    rw [upd_ne (Nat.ne_of_lt (Nat.lt_of_lt_of_le hlt hn))]
    exact (hf b hb).1
  done := by
    intro X hP hw hK hc i pins s σ H E I hf st hg
    subst hP hw hK
    obtain ⟨xs, hqx, hend⟩ := hg
    obtain ⟨its, rv, p, _, _⟩ := Src.read I hqx
    obtain ⟨⟨old, he⟩, hit⟩ := st
    have hh : X.A.in1.handled = none := I.ok.hd hc
    have ne1 : c.ad ≠ it := n_ne1 h2 rfl
    have G := GoesN.enumFrom (prog := X.prog) (w := X.w) (A := X.A) (elts := elts) (x1 := kk) (pos := tpos) 0 (Src.draws hh c it ne1 its.toArray) e (n_ne3 h1)
      (n_ne4 h1 h2) (by simp)
    have hn : i = its.toArray.size := by rw [List.size_toArray, ← rv.length]; exact hend
    subst hn
    exact G.stops s (fun s1 => L2.Inv X pins σ H s1) E ⟨⟨old, by rw [Int.zero_add]; exact he⟩, ⟨hit, p⟩⟩ fun h' tk hk _ => I.turnedL (ch := [e, it]) (fun c o hb q => hk c o hb q) hf
  self := fun A i s Q E st h => let ⟨⟨_, he⟩, _⟩ := st; wpAny_pyIter_enum he h

set_option maxHeartbeats 1000000 in
theorem meets_enumerate_newA {v : Value} {o : Obj} {H : Heap → Prop} (B : Begins v o H) :
    Meets (Builtin.«enumerate.__new__» ⟨[.type "enumerate", v], []⟩) (fun _ R s => H s.heap ∧
      R (.ok (.ret (.ref (s.heap.push o).objs.size))) { s with heap := (s.heap.push o).push { cls := .type "enumerate", data := .fields #[.none, .bool false, .ref s.heap.objs.size, rawInt 0, .none, .none] } }) :=
  .of_wp fun prog w A R s h => by
    obtain ⟨hp, g, d, tk, os⟩ := s; obtain ⟨h1, h⟩ := h
    have hsub := sub_enumerate
    have q1 : ∀ {A' : Around} {E : Value → Shared → Prop} {Q : Value → Shared → Prop}, Q (.ref hp.objs.size) ⟨hp.push o, g, d, tk, os⟩ → wpAny (model prog w) A' (pyIter v) Q E ⟨hp, g, d, tk, os⟩ :=
      fun q => B.iter prog w _ _ ⟨hp, g, d, tk, os⟩ _ h1 q
    wp_walk using q1
    refine wpAny_stack_any fun st => wpAny_pure ?_
    split
    · rename_i c _ _ _ _ _
      cases (c == Value.type "enumerate")
      · wp_walk using q1
        exact ⟨_, rfl, h⟩
      · wp_walk using q1
        exact ⟨_, rfl, h⟩
    · wp_walk using q1
      exact ⟨_, rfl, h⟩
theorem enum_beginsA {prog : Program} {w : World} {A : Around} {E : Value → Shared → Prop} {s : Shared} {v : Value} {o : Obj} {H : Heap → Prop} {Q : Value → Shared → Prop} (B : Begins v o H) (h1 : H s.heap)
    (h : ∀ h', IsEnum h' (s.heap.objs.size + 1) s.heap.objs.size 0 .none → h'.get? s.heap.objs.size = some o → h'.objs.size = s.heap.objs.size + 2 →
      (∀ b o, s.heap.get? b = some o → h'.get? b = some o) → Q (.ref (s.heap.objs.size + 1)) { s with heap := h' }) :
    wpAny (model prog w) A (call (.type "enumerate") [v]) Q E s := by
  refine callType_new F.called_enumerate (by decide) (F.typeCall_enumerate_1 _) (F.newCall_enumerate_1 _) (fun obj => F.args_object_init_2 obj _) F.entry_enumerate_new
    (meets_enumerate_newA B) ⟨h1, ?_⟩
  have hz : (s.heap.push o).objs.size = s.heap.objs.size + 1 := Heap.size_push ..
  show _ ∧ _
  rw [hz]
  have he : IsEnum ((s.heap.push o).push { cls := .type "enumerate", data := .fields #[.none, .bool false, .ref s.heap.objs.size, rawInt 0, .none, .none] }) (s.heap.objs.size + 1) s.heap.objs.size 0 .none := by
    have := Heap.get?_push_size (s.heap.push o) (o := { cls := .type "enumerate", data := .fields #[.none, .bool false, .ref s.heap.objs.size, rawInt 0, .none, .none] }) rfl
    rw [hz] at this; exact this
  refine ⟨⟨_, he, rfl⟩, h _ he (Heap.get?_push_of_some _ (Heap.get?_push_size _ B.free)) (by rw [Heap.size_push, hz]) fun b o x => Heap.get?_push_of_some _ (Heap.get?_push_of_some _ x)⟩

/-! ### the iterators begin -/
section
variable {X : Cx}
def iZipS (K : PySem.W.Frag) (ta : TA) : TI := fun σ H R => ta σ H fun vs H1 => ∃ c d xs ys, vs = [.ref (Src.ad c), .ref (Src.ad d)] ∧ c.Sq K H1 xs ∧ d.Sq K H1 ys ∧ R (ItzS K c d) H1
theorem pi_zipS {e e2 : Expr} {ta : TA} {p pos tpos : Pos} {elts : List Expr} {kk : Nat} (hg : Gl X "zip") (hm : X.mg "zip" = none) (ha : PA X [e, e2] ta)
    (hs : starEach [e, e2] X.env = (false, eval e X.env) :: starEach [e2] X.env) (hpl : (backTo pos (starEach [e2] X.env)).any (·.1) = false) :
    PI X (.Tuple elts kk tpos) (.Call (.Name "zip" p) [e, e2] [] pos) (iZipS X.K ta) := by
  refine ⟨fun pins s σ H R I h => ?_⟩
  refine Call_ (ld_blt I hg hm PyProof.Rows.boot_zip (PyProof.Rows.callWith_type1 (thn (ha.run pos pins s σ H _ I h) fun us s1 ⟨vs, H1, I1, r1, q1⟩ => ?_) hs hpl))
  obtain ⟨c, d, xs, ys, ex, hc, hd, q⟩ := q1
  subst ex
  cases r1 with
  | cons r rr =>
    cases rr with
    | cons r' rr =>
      cases rr
      cases r
      cases r'
      obtain ⟨its, rv, p1, _, l1⟩ := Src.read I1 hc
      obtain ⟨its2, rv2, p2, _, l2⟩ := Src.read I1 hd
      refine zip_begins2 (Src.begins c its.toArray) (Src.begins d its2.toArray) p1 p2 fun h' hz hTI hTO h1 h2 hsz hk => wpAny_pyIter_zip hz ?_
      have I2 : L2.Inv X pins σ H1 { s1 with heap := h' } := I1.kept (t' := s1.toks) hk
      refine ⟨s1.heap.objs.size + 4, [s1.heap.objs.size + 4, s1.heap.objs.size + 2, s1.heap.objs.size + 3, s1.heap.objs.size, s1.heap.objs.size + 1], _, _, H1, rfl, I2, turn_zipS ⟨rfl, rfl, rfl, rfl, rfl, l1, l2⟩, ⟨hz, hTI, ⟨_, _, hTO⟩, c.first h1, d.first h2⟩, fun b hcm => ?_, q⟩
      have e' : b = s1.heap.objs.size + 4 ∨ b = s1.heap.objs.size + 2 ∨ b = s1.heap.objs.size + 3 ∨ b = s1.heap.objs.size ∨ b = s1.heap.objs.size + 1 := by simpa using hcm
      have hle : s1.heap.objs.size ≤ b := by
        rcases e' with z | z | z | z | z
        · rw [z]; exact Nat.le_add_right _ _
        · rw [z]; exact Nat.le_add_right _ _
        · rw [z]; exact Nat.le_add_right _ _
        · rw [z]; exact Nat.le_refl _
        · rw [z]; exact Nat.le_add_right _ _
      exact I1.fpOk hle (I1.hok.fresh hle)
def iEnumS (K : PySem.W.Frag) (ta : TA) : TI := fun σ H R => ta σ H fun vs H1 => ∃ c xs, vs = [.ref (Src.ad c)] ∧ c.Sq K H1 xs ∧ R (IteS K c) H1
theorem pi_enumS {e : Expr} {ta : TA} {p pos tpos : Pos} {elts : List Expr} {kk : Nat} (hg : Gl X "enumerate") (hm : X.mg "enumerate" = none) (ha : PA X [e] ta) (hs : starEach [e] X.env = [(false, eval e X.env)]) :
    PI X (.Tuple elts kk tpos) (.Call (.Name "enumerate" p) [e] [] pos) (iEnumS X.K ta) := by
  refine ⟨fun pins s σ H R I h => ?_⟩
  refine Call_ (ld_blt I hg hm boot_enumerate (PyProof.Rows.callWith_type1 (thn (ha.run pos pins s σ H _ I h) fun us s1 ⟨vs, H1, I1, r1, q1⟩ => ?_) hs rfl))
  obtain ⟨c, xs, ex, hq, q⟩ := q1
  subst ex
  cases r1 with
  | cons r rr =>
    cases rr
    cases r
    obtain ⟨its, rv, p', _, l1⟩ := Src.read I1 hq
    refine enum_beginsA (Src.begins c its.toArray) p' fun h' he hit hsz hk => wpAny_pyIter_enum he ?_
    have I2 : L2.Inv X pins σ H1 { s1 with heap := h' } := I1.kept (t' := s1.toks) hk
    refine ⟨s1.heap.objs.size + 1, [s1.heap.objs.size + 1, s1.heap.objs.size], _, _, H1, rfl, I2, turn_enumS rfl l1, ⟨⟨.none, he⟩, c.first hit⟩, fun b hb => ?_, q⟩
    have e' : b = s1.heap.objs.size + 1 ∨ b = s1.heap.objs.size := by simpa using hb
    have hle : s1.heap.objs.size ≤ b := by
      rcases e' with z | z
      · rw [z]; exact Nat.le_add_right _ _
      · rw [z]; exact Nat.le_refl _
    exact I1.fpOk hle (I1.hok.fresh hle)
/-- a list or a tuple by itself -/
def itS (K : PySem.W.Frag) : Src → L2.It
  | .l a => Itl K a
  | .t a => Itt K a
def iSrc (K : PySem.W.Frag) (tl : TE) : TI := fun σ H R => tl σ H fun x H1 => ∃ c : Src, x = .ref c.ad ∧ (∃ xs, c.Sq K H1 xs) ∧ R (itS K c) H1
theorem pi_src {tg l : Expr} {tl : TE} (hl : PE X l tl) : PI X tg l (iSrc X.K tl) := by
  refine ⟨fun pins s σ H R I h => ?_⟩
  refine thn (hl.run pins s σ H _ I h) fun u s1 ⟨x, H1, I1, r1, c, ex, ⟨xs, hc⟩, q⟩ => ?_
  subst ex
  cases r1
  have fp : ∀ b ∈ [s1.heap.objs.size], FpOk X pins H1 b := fun b hb => by
    have e : b = s1.heap.objs.size := by simpa using hb
    subst e
    exact I1.fpOk (Nat.le_refl _) (I1.hok.fresh (Nat.le_refl _))
  cases c with
  | l a =>
    obtain ⟨its, rv, p, hz⟩ := I1.list hc
    refine wpAny_pyIter_list p.isList ?_
    exact ⟨s1.heap.objs.size, [s1.heap.objs.size], _, _, H1, rfl, I1.kept (t' := s1.toks) fun b o e => Heap.get?_push_of_some _ e, turn_list a _, ⟨_, Heap.get?_push_size _ rfl, rfl, rfl⟩, fp, q⟩
  | t a =>
    obtain ⟨its, rv, p, hz⟩ := I1.tuple hc
    refine wpAny_pyIter_tuple (show s1.heap.IsTuple a its.toArray from p) ?_
    exact ⟨s1.heap.objs.size, [s1.heap.objs.size], _, _, H1, rfl, I1.kept (t' := s1.toks) fun b o e => Heap.get?_push_of_some _ e, turn_tuple a _, ⟨_, Heap.get?_push_size _ rfl, rfl, rfl⟩, fp, q⟩
end
end Rz

/-! RzS5 -/
set_option Elab.async false
set_option linter.all false
set_option maxRecDepth 100000
set_option maxHeartbeats 4000000
namespace Rz
open PySem PySem.Spec PyProof.Rows L2

/-! ### later: what is bad may have been rewritten -/
structure Later (H : Hp) (B : Bad) (Γ : List Addr) (H' : Hp) (B' : Bad) (Γ' : List Addr) : Prop where
  ext : ∀ b o, H b = some o → ¬ B b → H' b = some o
  bnew : ∀ b, B' b → B b ∨ H b = none
  gpre : ∀ (n : Nat) (a : Addr), Γ[n]? = some a → Γ'[n]? = some a
  live : ∀ b, H b ≠ none → H' b ≠ none
section
variable {S : Inf} {H H1 H' : Hp} {B B1 B' : Bad} {Γ Γ1 Γ' : List Addr}
theorem Step.later (ok : BadOk H B Γ) (s : Step H B Γ H' B' Γ') : Later H B Γ H' B' Γ' := ⟨fun b o e n => s.ext b o e fun z => n (ok.cell _ z), s.bnew, s.gpre, s.live⟩
theorem Later.refl : Later H B Γ H B Γ := ⟨fun _ _ e _ => e, fun _ b => .inl b, fun _ _ e => e, fun _ h => h⟩
theorem Later.trans (a : Later H B Γ H1 B1 Γ1) (b : Later H1 B1 Γ1 H' B' Γ') : Later H B Γ H' B' Γ' where
  ext := fun c o e n => b.ext c o (a.ext c o e n) fun z => by
    rcases a.bnew c z with z | z
    · exact n z
    · rw [e] at z; cases z
  bnew := fun c h => by
    rcases b.bnew c h with z | z
    · exact a.bnew c z
    · refine .inr ?_
      cases e : H c with
      | none => rfl
      | some o => exact absurd z (a.live c (by rw [e]; exact fun z => nomatch z))
  gpre := fun n c e => b.gpre n c (a.gpre n c e)
  live := fun c h => b.live c (a.live c h)
theorem Same.later (s : L2.Same H H') : Later H B Γ H' B Γ := ⟨fun b o e _ => s b o e, fun _ b => .inl b, fun _ _ e => e, fun b n z => n (s.free z)⟩
theorem seqT_later {a : Addr} {vs : List V} (ok : BadOk H B Γ) (l : Later H B Γ H' B' Γ') (h : SqT S.K H a vs) : SqT S.K H' a vs := by
  rcases h with (h | ⟨o, h⟩) | h
  · exact .inl (.inl (l.ext _ _ h (ok.notT h)))
  · exact .inl (.inr ⟨o, l.ext _ _ h (ok.notF h)⟩)
  · exact .inr h
mutual
theorem Rep.later (ok : BadOk H B Γ) (l : Later H B Γ H' B' Γ') : ∀ {v : V} {d : D}, Rep S H B Γ v d → Rep S H' B' Γ' v d
  | _, _, .non => .non
  | _, _, .bl b => .bl b
  | _, _, .int i => .int i
  | _, _, .str s => .str s
  | _, _, .tup h r => .tup (seqT_later ok l h) (Reps.later ok l r)
  | _, _, .lst h nb r => .lst (l.ext _ _ h nb) (fun z => (l.bnew _ z).elim nb (by rw [h]; exact fun z => nomatch z)) (Reps.later ok l r)
  | _, _, .scr h r => .scr (h.elim (fun ⟨o, h⟩ => .inl ⟨o, l.ext _ _ h (ok.notF h)⟩) .inr) (Reps.later ok l r)
  | _, _, .dic h nb e r => .dic (l.ext _ _ h nb) (fun z => (l.bnew _ z).elim nb (by rw [h]; exact fun z => nomatch z)) e (Reps.later ok l r)
  | _, _, .fn f => .fn f
  | _, _, .mref h => .mref (l.gpre _ _ h)
theorem Reps.later (ok : BadOk H B Γ) (l : Later H B Γ H' B' Γ') : ∀ {vs : List V} {ds : List D}, Reps S H B Γ vs ds → Reps S H' B' Γ' vs ds
  | _, _, .nil => .nil
  | _, _, .cons h r => .cons (Rep.later ok l h) (Reps.later ok l r)
end
end

/-! ### slots -/
theorem getS_setS : ∀ (env : Env) (i j : Nat) (s : Sl), getS (setS env i s) j = if i = j ∧ i < env.length then s else getS env j
  | [], i, j, s => by simp [setS, getS]
  | a :: r, 0, 0, s => by simp [setS, getS]
  | a :: r, 0, j + 1, s => by simp [setS, getS]
  | a :: r, i + 1, 0, s => by simp [setS, getS]
  | a :: r, i + 1, j + 1, s => by
    have := getS_setS r i j s
    simp only [setS, getS, List.length_cons, Nat.add_right_cancel_iff, Nat.add_lt_add_iff_right]
    exact this
theorem setS_len : ∀ (env : Env) (i : Nat) (s : Sl), (setS env i s).length = env.length
  | [], _, _ => rfl
  | _ :: r, 0, _ => rfl
  | _ :: r, i + 1, s => by simp [setS, setS_len r i s]
theorem set_get {α : Type} (σ : List α) (i j : Nat) (x : α) : (σ.set i x)[j]? = if i = j ∧ i < σ.length then some x else σ[j]? := by
  rw [List.getElem?_set]
  by_cases h : i = j
  · subst h
    by_cases h2 : i < σ.length
    · simp [h2]
    · simp [h2]
  · simp [h]
section
variable {S : Inf} {H H' H0 : Hp} {B B' : Bad} {Γ Γ' : List Addr} {g g' : Gs} {σ : L2.St} {env : Env}
theorem Slots.setP {i : Nat} {v : V} {d : D} (h : Slots S H B Γ H0 σ env) (r : Rep S H B Γ v d) : Slots S H B Γ H0 (σ.set i (some v)) (setS env i (.p d)) where
  len := by rw [List.length_set, setS_len]; exact h.len
  at_ := fun j => by
    rw [set_get, getS_setS, h.len]
    by_cases c : i = j ∧ i < env.length
    · rw [if_pos c, if_pos c]; exact ⟨v, rfl, r⟩
    · rw [if_neg c, if_neg c]; exact h.at_ j
  apart := fun j k a ne hj hk e1 e2 => by
    rw [getS_setS] at hj hk
    by_cases c : i = j ∧ i < env.length
    · rw [if_pos c] at hj; exact hj
    · by_cases c2 : i = k ∧ i < env.length
      · rw [if_pos c2] at hk; exact hk
      · rw [if_neg c] at hj
        rw [if_neg c2] at hk
        rw [set_get, h.len, if_neg c] at e1
        rw [set_get, h.len, if_neg c2] at e2
        exact h.apart j k a ne hj hk e1 e2
theorem Slots.setU {i : Nat} {x : Option V} (h : Slots S H B Γ H0 σ env) : Slots S H B Γ H0 (σ.set i x) (setS env i .u) where
  len := by rw [List.length_set, setS_len]; exact h.len
  at_ := fun j => by
    rw [set_get, getS_setS, h.len]
    by_cases c : i = j ∧ i < env.length
    · rw [if_pos c, if_pos c]; trivial
    · rw [if_neg c, if_neg c]; exact h.at_ j
  apart := fun j k a ne hj hk e1 e2 => by
    rw [getS_setS] at hj hk
    by_cases c : i = j ∧ i < env.length
    · rw [if_pos c] at hj; exact hj
    · by_cases c2 : i = k ∧ i < env.length
      · rw [if_pos c2] at hk; exact hk
      · rw [if_neg c] at hj
        rw [if_neg c2] at hk
        rw [set_get, h.len, if_neg c] at e1
        rw [set_get, h.len, if_neg c2] at e2
        exact h.apart j k a ne hj hk e1 e2
theorem Slots.wipe (h : Slots S H B Γ H0 σ env) : ∀ is : List Nat, Slots S H B Γ H0 (L2.wipe σ is) (wipeS is env)
  | [] => h
  | i :: is => (h.wipe is).setU
/-- a new own list or dict at slot i -/
theorem Slots.setO {i : Nat} {a : Addr} {d : D} (h : Slots S H B Γ H0 σ env) (b : B a) (n : a ∉ Γ) (z : H0 a = none) (w : OwnAt S H B Γ a d)
    (ap : ∀ j, isO (getS env j) → σ[j]? ≠ some (some (.ref a))) : Slots S H B Γ H0 (σ.set i (some (.ref a))) (setS env i (.o d)) where
  len := by rw [List.length_set, setS_len]; exact h.len
  at_ := fun j => by
    rw [set_get, getS_setS, h.len]
    by_cases c : i = j ∧ i < env.length
    · rw [if_pos c, if_pos c]; exact ⟨a, rfl, b, n, z, w⟩
    · rw [if_neg c, if_neg c]; exact h.at_ j
  apart := fun j k x ne hj hk e1 e2 => by
    rw [getS_setS] at hj hk
    rw [set_get, h.len] at e1 e2
    by_cases c : i = j ∧ i < env.length
    · by_cases c2 : i = k ∧ i < env.length
      · exact ne (c.1.symm.trans c2.1)
      · rw [if_pos c] at e1
        rw [if_neg c2] at hk e2
        injection e1 with e1; injection e1 with e1; injection e1 with e1
        subst e1
        exact ap k hk e2
    · by_cases c2 : i = k ∧ i < env.length
      · rw [if_pos c2] at e2
        rw [if_neg c] at hj e1
        injection e2 with e2; injection e2 with e2; injection e2 with e2
        subst e2
        exact ap j hj e1
      · rw [if_neg c] at hj e1
        rw [if_neg c2] at hk e2
        exact h.apart j k x ne hj hk e1 e2
end

/-! ### targets -/
theorem wipe_get (σ : L2.St) (j : Nat) : ∀ vs : List Nat, (L2.wipe σ vs)[j]? = if j ∈ vs ∧ j < σ.length then some none else σ[j]?
  | [] => by simp [L2.wipe]
  | v :: vs => by
    unfold L2.wipe
    rw [set_get, wipe_get σ j vs, L2.wipe_length]
    by_cases h : v = j
    · subst h
      by_cases h2 : v < σ.length
      · simp [h2]
      · simp [h2]
    · have h' : ¬ j = v := fun e => h e.symm
      simp only [h, false_and, if_false, List.mem_cons, h', false_or]
theorem wipe_app {σ σ1 σ2 : L2.St} {as bs : List Nat} (h1 : L2.wipe σ1 as = L2.wipe σ as) (h2 : L2.wipe σ2 bs = L2.wipe σ1 bs) : L2.wipe σ2 (as ++ bs) = L2.wipe σ (as ++ bs) := by
  have l1 : σ1.length = σ.length := by rw [← L2.wipe_length σ1 as, h1, L2.wipe_length]
  have l2 : σ2.length = σ1.length := by rw [← L2.wipe_length σ2 bs, h2, L2.wipe_length]
  apply List.ext_getElem?
  intro j
  have e1 := congrArg (fun l : L2.St => l[j]?) h1
  have e2 := congrArg (fun l : L2.St => l[j]?) h2
  simp only [wipe_get] at e1 e2 ⊢
  rw [l2, l1] at *
  by_cases hj : j < σ.length
  · by_cases ha : j ∈ as
    · simp [ha, hj]
    · by_cases hb : j ∈ bs
      · simp [hb, hj]
      · simp only [ha, hb, hj, List.mem_append, or_self, false_and, if_false] at e1 e2 ⊢
        rw [e2, e1]
  · simp only [hj, and_false, if_false] at e1 e2 ⊢
    rw [e2, e1]
mutual
def gOf (K : PySem.W.Frag) : Tg → TG
  | .nm i => gName i
  | .tp ts => gTup K ts.length (gsOf K ts)
def gsOf (K : PySem.W.Frag) : List Tg → TGs
  | [] => gNil
  | t :: ts => gCons (gOf K t) (gsOf K ts)
end
section
variable {S : Inf} {H H0 : Hp} {B : Bad} {Γ : List Addr}
mutual
theorem gOf_ok : ∀ (t : Tg) (d : D) (env env' : Env) (σ : L2.St) (v : V) (Q : L2.St → Hp → Prop), bindT t d env = some env' → Slots S H B Γ H0 σ env → Rep S H B Γ v d →
    (∀ σ', Slots S H B Γ H0 σ' env' → L2.wipe σ' t.ix = L2.wipe σ t.ix → Q σ' H) → gOf S.K t v σ H Q
  | .nm i, d, env, env', σ, v, Q, e, sl, r, k => by
    injection e with e; subst e
    exact k _ (sl.setP r) (by simp [Tg.ix, L2.wipe])
  | .tp ts, d, env, env', σ, v, Q, e, sl, r, k => by
    cases r with
    | tup h q =>
      have e : bindTs ts _ env = some env' := e
      refine ⟨_, _, rfl, h, ?_, gsOf_ok ts _ env env' σ _ Q e sl q k⟩
      rw [q.length]
      exact (bindTs_len ts _ env env' e).symm
    | _ => cases e
theorem gsOf_ok : ∀ (ts : List Tg) (ds : List D) (env env' : Env) (σ : L2.St) (vs : List V) (Q : L2.St → Hp → Prop), bindTs ts ds env = some env' → Slots S H B Γ H0 σ env → Reps S H B Γ vs ds →
    (∀ σ', Slots S H B Γ H0 σ' env' → L2.wipe σ' (Tg.ixs ts) = L2.wipe σ (Tg.ixs ts) → Q σ' H) → gsOf S.K ts vs σ H Q
  | [], ds, env, env', σ, vs, Q, e, sl, r, k => by
    cases r with
    | nil => injection e with e; subst e; exact ⟨rfl, k σ sl rfl⟩
    | cons _ _ => cases e
  | t :: ts, ds, env, env', σ, vs, Q, e, sl, r, k => by
    cases r with
    | nil => cases e
    | cons h q =>
      rename_i v vs d ds
      have e : (match bindT t d env with | some env1 => bindTs ts ds env1 | none => none) = some env' := e
      cases e1 : bindT t d env with
      | none => rw [e1] at e; cases e
      | some env1 =>
        rw [e1] at e
        refine ⟨v, vs, rfl, gOf_ok t d env env1 σ v _ e1 sl h fun σ1 sl1 w1 => ?_⟩
        refine gsOf_ok ts ds env1 env' σ1 vs Q e sl1 q fun σ2 sl2 w2 => k σ2 sl2 ?_
        exact wipe_app w1 w2
theorem bindTs_len : ∀ (ts : List Tg) (ds : List D) (env env' : Env), bindTs ts ds env = some env' → ts.length = ds.length
  | [], [], _, _, _ => rfl
  | [], _ :: _, _, _, e => by cases e
  | _ :: _, [], _, _, e => by cases e
  | t :: ts, d :: ds, env, env', e => by
    have e : (match bindT t d env with | some env1 => bindTs ts ds env1 | none => none) = some env' := e
    cases e1 : bindT t d env with
    | none => rw [e1] at e; cases e
    | some env1 =>
      rw [e1] at e
      rw [List.length_cons, List.length_cons, bindTs_len ts ds env1 env' e]
end
end

/-! ### what is walked, over data -/
structure ItOk (S : Inf) (J : L2.It) (H : Hp) (B : Bad) (Γ : List Addr) (xs : List D) : Prop where
  go : ∀ i H' B' Γ', Later H B Γ H' B' Γ' → i < xs.length → J.go i H'
  stop : ∀ H' B' Γ', Later H B Γ H' B' Γ' → J.stop xs.length H'
  yld : ∀ i H' B' Γ' x H'' d, Later H B Γ H' B' Γ' → BadOk H' B' Γ' → J.yld i H' x H'' → xs[i]? = some d → L2.Same H' H'' ∧ Rep S H'' B' Γ' x d
section
variable {S : Inf} {H : Hp} {B : Bad} {Γ : List Addr}
/-- a list or a tuple as a source -/
theorem src_of {v : V} {d : D} {xs : List D} (ok : BadOk H B Γ) (r : Rep S H B Γ v d) (e : seqOf d = some xs) :
    ∃ c : Src, v = .ref c.ad ∧ ∃ vs, Reps S H B Γ vs xs ∧ ∀ H' B' Γ', Later H B Γ H' B' Γ' → c.Sq S.K H' vs := by
  cases r with
  | tup h q =>
    injection e with e; subst e
    exact ⟨.t _, rfl, _, q, fun H' B' Γ' l => seqT_later ok l h⟩
  | lst h nb q =>
    injection e with e; subst e
    exact ⟨.l _, rfl, _, q, fun H' B' Γ' l => SqL.of (l.ext _ _ h nb)⟩
  | _ => cases e
theorem itok_src {c : Src} {vs : List V} {xs : List D} (ok : BadOk H B Γ) (q : Reps S H B Γ vs xs) (hs : ∀ H' B' Γ', Later H B Γ H' B' Γ' → c.Sq S.K H' vs) : ItOk S (itS S.K c) H B Γ xs := by
  cases c with
  | l a =>
    refine ⟨fun i H' B' Γ' l hi => ?_, fun H' B' Γ' l => ⟨vs, hs _ _ _ l, by rw [q.length]; exact Nat.le_refl _⟩, fun i H' B' Γ' x H'' d l ok' y e => ?_⟩
    · obtain ⟨v, e, _⟩ := q.get (i := i) (d := xs[i]) (by simp [hi])
      exact ⟨vs, v, hs _ _ _ l, e⟩
    · obtain ⟨e1, e2⟩ := y
      subst e1
      obtain ⟨v, e3, r⟩ := (q.later ok l).get e
      have := e2 vs (hs _ _ _ l)
      rw [e3] at this
      cases this
      exact ⟨L2.Same.refl _, r⟩
  | t a =>
    refine ⟨fun i H' B' Γ' l hi => ?_, fun H' B' Γ' l => ⟨vs, hs _ _ _ l, by rw [q.length]; exact Nat.le_refl _⟩, fun i H' B' Γ' x H'' d l ok' y e => ?_⟩
    · obtain ⟨v, e, _⟩ := q.get (i := i) (d := xs[i]) (by simp [hi])
      exact ⟨vs, v, hs _ _ _ l, e⟩
    · obtain ⟨e1, e2⟩ := y
      subst e1
      obtain ⟨v, e3, r⟩ := (q.later ok l).get e
      have := e2 vs (hs _ _ _ l)
      rw [e3] at this
      cases this
      exact ⟨L2.Same.refl _, r⟩
theorem itok_rng (lo : Int) (n : Nat) : ItOk S (Itr lo n) H B Γ (rangeI lo n) := by
  have hl : (rangeI lo n).length = n := by simp [rangeI]
  refine ⟨fun i H' B' Γ' l hi => ?_, fun H' B' Γ' l => ?_, fun i H' B' Γ' x H'' d l ok' y e => ?_⟩
  · rw [hl] at hi; exact hi
  · rw [hl]; exact Nat.le_refl _
  · obtain ⟨e1, e2⟩ := y
    subst e1 e2
    have : d = .int (lo + (i : Nat)) := by
      unfold rangeI at e
      rw [List.getElem?_map] at e
      cases h : (List.range n)[i]? with
      | none => rw [h] at e; cases e
      | some k =>
        rw [h] at e
        have hk : k = i := by
          have := List.getElem?_eq_some_iff.mp h
          obtain ⟨h1, h2⟩ := this
          simp at h2
          exact h2.symm
        subst hk
        exact (Option.some.inj e).symm
    subst this
    exact ⟨L2.Same.refl _, .int _⟩
theorem itok_zip {c d : Src} {vs ws : List V} {xs ys : List D} (ok : BadOk H B Γ) (q : Reps S H B Γ vs xs) (hs : ∀ H' B' Γ', Later H B Γ H' B' Γ' → c.Sq S.K H' vs) (q2 : Reps S H B Γ ws ys) (hs2 : ∀ H' B' Γ', Later H B Γ H' B' Γ' → d.Sq S.K H' ws) :
    ItOk S (ItzS S.K c d) H B Γ ((xs.zip ys).map fun p => .tup [p.1, p.2]) := by
  have hl : ((xs.zip ys).map fun p => D.tup [p.1, p.2]).length = min xs.length ys.length := by simp [List.length_zip]
  refine ⟨fun i H' B' Γ' l hi => ?_, fun H' B' Γ' l => ?_, fun i H' B' Γ' x H'' e l ok' y he => ?_⟩
  · rw [hl] at hi
    obtain ⟨v, e, _⟩ := q.get (i := i) (d := xs[i]'(by omega)) (by rw [List.getElem?_eq_getElem])
    obtain ⟨v2, e2, _⟩ := q2.get (i := i) (d := ys[i]'(by omega)) (by rw [List.getElem?_eq_getElem])
    exact ⟨vs, ws, v, v2, hs _ _ _ l, hs2 _ _ _ l, e, e2⟩
  · rw [hl]
    exact ⟨vs, ws, hs _ _ _ l, hs2 _ _ _ l, by rw [q.length, q2.length]⟩
  · obtain ⟨T, a, b, e1, e2, e3, ea, eb⟩ := y
    subst e1 e3
    rw [List.getElem?_map] at he
    cases hz : (xs.zip ys)[i]? with
    | none => rw [hz] at he; cases he
    | some p =>
      rw [hz] at he
      have he : D.tup [p.1, p.2] = e := Option.some.inj he
      subst he
      rw [List.getElem?_zip_eq_some] at hz
      obtain ⟨v, f1, r1⟩ := (q.later ok l).get hz.1
      obtain ⟨v2, f2, r2⟩ := (q2.later ok l).get hz.2
      have g1 := ea vs (hs _ _ _ l)
      have g2 := eb ws (hs2 _ _ _ l)
      rw [f1] at g1; rw [f2] at g2
      cases g1; cases g2
      exact ⟨same_laid e2, new_tup ok' e2 (.cons r1 (.cons r2 .nil))⟩
theorem itok_enum {c : Src} {vs : List V} {xs : List D} (ok : BadOk H B Γ) (q : Reps S H B Γ vs xs) (hs : ∀ H' B' Γ', Later H B Γ H' B' Γ' → c.Sq S.K H' vs) :
    ItOk S (IteS S.K c) H B Γ ((xs.zip (List.range xs.length)).map fun p => .tup [.int (p.2 : Nat), p.1]) := by
  have hl : ((xs.zip (List.range xs.length)).map fun p => D.tup [.int (p.2 : Nat), p.1]).length = xs.length := by simp [List.length_zip]
  refine ⟨fun i H' B' Γ' l hi => ?_, fun H' B' Γ' l => ?_, fun i H' B' Γ' x H'' e l ok' y he => ?_⟩
  · rw [hl] at hi
    obtain ⟨v, e, _⟩ := q.get (i := i) (d := xs[i]'(by omega)) (by rw [List.getElem?_eq_getElem])
    exact ⟨vs, v, hs _ _ _ l, e⟩
  · rw [hl]
    exact ⟨vs, hs _ _ _ l, by rw [q.length]⟩
  · obtain ⟨T, a, e1, e2, e3, ea⟩ := y
    subst e1 e3
    rw [List.getElem?_map] at he
    cases hz : (xs.zip (List.range xs.length))[i]? with
    | none => rw [hz] at he; cases he
    | some p =>
      rw [hz] at he
      have he : D.tup [.int (p.2 : Nat), p.1] = e := Option.some.inj he
      subst he
      rw [List.getElem?_zip_eq_some] at hz
      obtain ⟨v, f1, r1⟩ := (q.later ok l).get hz.1
      have hk : p.2 = i := by
        obtain ⟨h1, h2⟩ := List.getElem?_eq_some_iff.mp hz.2
        simp at h2
        exact h2.symm
      have g1 := ea vs (hs _ _ _ l)
      rw [f1] at g1
      cases g1
      rw [hk]
      exact ⟨same_laid e2, new_tup ok' e2 (.cons (.int _) (.cons r1 .nil))⟩
end

/-- the items of an iterable, and the iterator -/
def tIt (S : Inf) (H0 : Hp) (W : WX) (C : Nat → List D → Gs → R D) (k : ItK) (es : List Ex) : TI := fun σ H R => ∃ env g B Γ, Slots S H B Γ H0 σ env ∧ Cells S H g B Γ ∧
  Out S σ W H B Γ (evEs C es env g) fun ds g' H' B' Γ' => ∃ xs, items k ds = some xs ∧ ∀ J, ItOk S J H' B' Γ' xs → R J H'
theorem PI.imp {X : Cx} {tg pe : Expr} {t t' : TI} (h : PI X tg pe t) (hi : ∀ σ H R, t' σ H R → t σ H R) : PI X tg pe t' := ⟨fun pins s σ H R I q => h.run pins s σ H R I (hi _ _ _ q)⟩
section
variable {S : Inf} {H0 : Hp} {W : WX} {C : Nat → List D → Gs → R D} {X : Cx}
/-- one argument -/
theorem tIt1 {k : ItK} {e : Ex} {σ : L2.St} {H : Hp} {R : L2.It → Hp → Prop} {K : VK} (h : tIt S H0 W C k [e] σ H R)
    (hk : ∀ d g1 H1 B1 Γ1 v xs, Cells S H1 g1 B1 Γ1 → Rep S H1 B1 Γ1 v d → items k [d] = some xs → (∀ J, ItOk S J H1 B1 Γ1 xs → R J H1) → K v H1) : tD S H0 W C e σ H K := by
  obtain ⟨env, g, B, Γ, sl, ce, h⟩ := h
  refine tD_bind sl ce (Q := fun ds g' H' B' Γ' => ∃ xs, items k ds = some xs ∧ ∀ J, ItOk S J H' B' Γ' xs → R J H') (f := fun d g => (evEs C [] env g).bind fun ds g => .ok (d :: ds) g) h fun d g1 H1 B1 Γ1 v sl1 ce1 s1 r _ o => ?_
  obtain ⟨xs, e1, q⟩ := o H1 B1 Γ1 ce1 .refl
  exact hk d g1 H1 B1 Γ1 v xs ce1 r e1 q
theorem tItA {k : ItK} {es : List Ex} {σ : L2.St} {H : Hp} {R : L2.It → Hp → Prop} {K : List V → Hp → Prop} (h : tIt S H0 W C k es σ H R)
    (hk : ∀ ds g1 H1 B1 Γ1 vs xs, Cells S H1 g1 B1 Γ1 → Reps S H1 B1 Γ1 vs ds → items k ds = some xs → (∀ J, ItOk S J H1 B1 Γ1 xs → R J H1) → K vs H1) : tDs S H0 W C es σ H K := by
  obtain ⟨env, g, B, Γ, sl, ce, h⟩ := h
  exact ⟨env, g, B, Γ, sl, ce, h.imp fun ds g1 H1 B1 Γ1 ce1 s1 ⟨xs, e1, q⟩ vs r => hk ds g1 H1 B1 Γ1 vs xs ce1 r e1 q⟩
theorem iok_seq (hK : X.K = S.K) {e : Ex} {tg pe : Expr} (h : PE X pe (tD S H0 W C e)) : PI X tg pe (tIt S H0 W C .seq [e]) := by
  refine PI.imp (pi_src h) fun σ H R hh => ?_
  refine tIt1 hh fun d g1 H1 B1 Γ1 v xs ce r ei q => ?_
  have es : seqOf d = some xs := by cases d <;> first | exact ei | cases ei
  obtain ⟨c, ev, vs, rs, hs⟩ := src_of ce.ok r es
  rw [hK]
  exact ⟨c, ev, ⟨vs, hs _ _ _ .refl⟩, q _ (itok_src ce.ok rs hs)⟩
theorem iok_rng {e : Ex} {tg pe : Expr} {p pos : Pos} (hg : Gl X "range") (hm : X.mg "range" = none) (h : PA X [pe] (tDs S H0 W C [e])) (hs : starEach [pe] X.env = [(false, eval pe X.env)]) :
    PI X tg (.Call (.Name "range" p) [pe] [] pos) (tIt S H0 W C .rng [e]) := by
  refine PI.imp (pi_range1 hg hm h hs) fun σ H R hh => ?_
  refine tItA hh fun ds g1 H1 B1 Γ1 vs xs ce r ei q => ?_
  cases r with
  | nil => cases ei
  | cons r1 r2 =>
    cases r2 with
    | cons _ _ => cases ei
    | nil =>
      cases r1 with
      | int n =>
        obtain ⟨h1, h2⟩ := ite_some ei
        subst h2
        obtain ⟨b1, b2⟩ := shortI_ok h1
        exact ⟨n, rfl, b1, b2, q _ (itok_rng 0 n.toNat)⟩
      | _ => cases ei
theorem iok_rng2 {e e2 : Ex} {tg pe pe2 : Expr} {p pos : Pos} (hg : Gl X "range") (hm : X.mg "range" = none) (h : PA X [pe, pe2] (tDs S H0 W C [e, e2]))
    (hs : starEach [pe, pe2] X.env = [(false, eval pe X.env), (false, eval pe2 X.env)]) (hs2 : starEach [pe2] X.env = [(false, eval pe2 X.env)]) :
    PI X tg (.Call (.Name "range" p) [pe, pe2] [] pos) (tIt S H0 W C .rng2 [e, e2]) := by
  refine PI.imp (pi_range2 hg hm h hs hs2) fun σ H R hh => ?_
  refine tItA hh fun ds g1 H1 B1 Γ1 vs xs ce r ei q => ?_
  cases r with
  | nil => cases ei
  | cons r1 r2 =>
    cases r2 with
    | nil => cases ei
    | cons r2 r3 =>
      cases r3 with
      | cons _ _ => cases ei
      | nil =>
        cases r1 with
        | int a =>
          cases r2 with
          | int b =>
            obtain ⟨h1, h2⟩ := ite_some ei
            subst h2
            rw [Bool.and_eq_true] at h1
            obtain ⟨b1, b2⟩ := shortI_ok h1.1
            obtain ⟨b3, b4⟩ := shortI_ok h1.2
            exact ⟨a, b, rfl, ⟨b1, b2, b3, b4⟩, q _ (itok_rng a (b - a).toNat)⟩
          | _ => cases ei
        | _ => cases ei
theorem iok_zip (hK : X.K = S.K) {e e2 : Ex} {pe pe2 : Expr} {p pos tpos : Pos} {elts : List Expr} {kk : Nat} (hg : Gl X "zip") (hm : X.mg "zip" = none) (h : PA X [pe, pe2] (tDs S H0 W C [e, e2]))
    (hs : starEach [pe, pe2] X.env = (false, eval pe X.env) :: starEach [pe2] X.env) (hpl : (backTo pos (starEach [pe2] X.env)).any (·.1) = false) :
    PI X (.Tuple elts kk tpos) (.Call (.Name "zip" p) [pe, pe2] [] pos) (tIt S H0 W C .zip [e, e2]) := by
  refine PI.imp (pi_zipS hg hm h hs hpl) fun σ H R hh => ?_
  refine tItA hh fun ds g1 H1 B1 Γ1 vs xs ce r ei q => ?_
  cases r with
  | nil => cases ei
  | cons r1 r2 =>
    cases r2 with
    | nil => cases ei
    | cons r2 r3 =>
      cases r3 with
      | cons _ _ => cases ei
      | nil =>
        rename_i d1 v2 d2
        have ei : (match seqOf d1, seqOf d2 with | some a, some b => some ((a.zip b).map fun p => D.tup [p.1, p.2]) | _, _ => none) = some xs := ei
        cases e1 : seqOf d1 with
        | none => rw [e1] at ei; cases ei
        | some a =>
          cases e2 : seqOf d2 with
          | none => rw [e1, e2] at ei; cases ei
          | some b =>
            rw [e1, e2] at ei
            have ei : ((a.zip b).map fun p => D.tup [p.1, p.2]) = xs := Option.some.inj ei
            subst ei
            obtain ⟨c, ev, vs, rs, hs⟩ := src_of ce.ok r1 e1
            obtain ⟨c2, ev2, vs2, rs2, hs2⟩ := src_of ce.ok r2 e2
            rw [hK]
            exact ⟨c, c2, vs, vs2, by rw [ev, ev2], hs _ _ _ .refl, hs2 _ _ _ .refl, q _ (itok_zip ce.ok rs hs rs2 hs2)⟩
theorem iok_enum (hK : X.K = S.K) {e : Ex} {pe : Expr} {p pos tpos : Pos} {elts : List Expr} {kk : Nat} (hg : Gl X "enumerate") (hm : X.mg "enumerate" = none) (h : PA X [pe] (tDs S H0 W C [e])) (hs : starEach [pe] X.env = [(false, eval pe X.env)]) :
    PI X (.Tuple elts kk tpos) (.Call (.Name "enumerate" p) [pe] [] pos) (tIt S H0 W C .enum [e]) := by
  refine PI.imp (pi_enumS hg hm h hs) fun σ H R hh => ?_
  refine tItA hh fun ds g1 H1 B1 Γ1 vs xs ce r ei q => ?_
  cases r with
  | nil => cases ei
  | cons r1 r2 =>
    cases r2 with
    | cons _ _ => cases ei
    | nil =>
      rename_i d1
      cases e1 : seqOf d1 with
      | none => simp only [items, e1] at ei; cases ei
      | some a =>
        simp only [items, e1] at ei
        have ei : ((a.zip (List.range a.length)).map fun p => D.tup [.int (p.2 : Nat), p.1]) = xs := Option.some.inj ei
        subst ei
        obtain ⟨c, ev, vs, rs, hs⟩ := src_of ce.ok r1 e1
        rw [hK]
        exact ⟨c, vs, by rw [ev], hs _ _ _ .refl, q _ (itok_enum ce.ok rs hs)⟩
end
end Rz

/-! RzS6 -/
set_option Elab.async false
set_option linter.all false
set_option maxRecDepth 100000
set_option maxHeartbeats 4000000
namespace Rz
open PySem PySem.Spec PyProof.Rows L2

section
variable {S : Inf} {H0 : Hp} {W : WX} {C : Nat → List D → Gs → R D} {X : Cx}
/-! ### names, constants -/
theorem eok_var {i : Nat} {x : Str} {pos : Pos} (hN : X.N[i]? = some x) (hv : Vis X.env.scope x) (hd : (x == ("__debug__" : Str)) = false) (hcd : (x == ("__classdict__" : Str)) = false) : PE X (.Name x pos) (tD S H0 W C (.var i)) := by
  refine (pe_var hN hv hd hcd).imp fun σ H Q ⟨env, g, B, Γ, sl, ce, h⟩ => ?_
  have q := sl.at_ i
  have h : Out S σ W H B Γ (match getS env i with | .p d => R.ok d g | _ => .no) _ := h
  cases e : getS env i with
  | p d =>
    rw [e] at q h
    obtain ⟨v, e1, r⟩ := q
    exact ⟨v, e1, h H B Γ ce .refl v r fun z => nomatch z⟩
  | u => rw [e] at h; exact h.elim
  | o d => rw [e] at h; exact h.elim
theorem eok_lit {pe : Expr} {v : V} {d : D} (h : PE X pe (tC v)) (hr : ∀ H B Γ, Rep S H B Γ v d) : PE X pe (tD S H0 W C (.lit d)) := by
  refine h.imp fun σ H Q ⟨env, g, B, Γ, sl, ce, h⟩ => ?_
  exact h H B Γ ce .refl v (hr _ _ _) fun z => nomatch z
theorem eok_glo {pe : Expr} {v : V} {x : List Nat} {d : D} (h : PE X pe (tC v)) (hr : ∀ H B Γ, Rep S H B Γ v d) : PE X pe (tD S H0 W C (.glo x d)) := by
  refine h.imp fun σ H Q ⟨env, g, B, Γ, sl, ce, h⟩ => ?_
  exact h H B Γ ce .refl v (hr _ _ _) fun z => nomatch z
theorem eok_fnv {pe : Expr} {f : Nat} (h : PE X pe (tC (.ref (S.fad f)))) : PE X pe (tD S H0 W C (.fnv f)) := by
  refine h.imp fun σ H Q ⟨env, g, B, Γ, sl, ce, h⟩ => ?_
  exact h H B Γ ce .refl _ (.fn f) fun z => nomatch z

/-! ### places -/
theorem atI_eq {α : Type} (xs : List α) (i : Int) : atI xs i = L2.atI xs i := rfl
theorem reps_atI {H : Hp} {B : Bad} {Γ : List Addr} {vs : List V} {ds : List D} {i : Int} {d : D} (q : Reps S H B Γ vs ds) (e : atI ds i = some d) : ∃ v, L2.atI vs i = some v ∧ Rep S H B Γ v d := by
  unfold atI at e
  unfold L2.atI
  cases h : ixN ds.length i with
  | none => rw [h] at e; cases e
  | some j =>
    rw [h] at e
    have e : ds[j]? = some d := e
    obtain ⟨v, e1, r⟩ := q.get e
    refine ⟨v, ?_, r⟩
    have : L2.ixN vs.length i = some j := by rw [q.length]; exact h
    rw [this]
    exact e1
/-! ### slices -/
theorem sIx_eq (n d : Nat) (o : Option Int) (hd : d ≤ n) : sIx n d o = HT.sIx n d o := by
  cases o with
  | none => rfl
  | some v =>
    have h := HT.clip_eq v n d
    show (if v < 0 then (v + (n : Int)).toNat else min v.toNat n) = _
    by_cases hv : v < 0
    · rw [if_pos hv] at h ⊢
      omega
    · rw [if_neg hv] at h ⊢
      omega
theorem cut_reps {H : Hp} {B : Bad} {Γ : List Addr} {vs : List V} {ds : List D} {lo hi : Option Int} (q : Reps S H B Γ vs ds) : Reps S H B Γ (cutV vs lo hi) (cut ds lo hi) := by
  unfold cutV cut
  rw [← sIx_eq _ _ lo (Nat.zero_le _), ← sIx_eq _ _ hi (Nat.le_refl _), q.length]
  exact (q.drop _).take _
theorem cut_whole {H : Hp} {B : Bad} {Γ : List Addr} {vs : List V} {ds : List D} {lo hi : Option Int} (q : Reps S H B Γ vs ds) (h : HT.sIx vs.length 0 lo = 0 ∧ HT.sIx vs.length vs.length hi = vs.length) : cut ds lo hi = ds := by
  unfold cut
  rw [sIx_eq _ _ lo (Nat.zero_le _), sIx_eq _ _ hi (Nat.le_refl _), ← q.length, h.1, h.2, q.length]
  simp
/-- what a slice asks -/
def rSlR (K : PySem.W.Frag) : V → Option Int → Option Int → Hp → VK → Prop := fun x lo hi H Q => rSlA K x lo hi H Q ∨ rSlL K x lo hi H Q ∨
  rSlS x lo hi H Q
theorem ro_slice {H : Hp} {B : Bad} {Γ : List Addr} {v : V} {d e : D} {lo hi : Option Int} {Q : VK} (ok : BadOk H B Γ) (r : Rep S H B Γ v d) (h : slice d lo hi = some e)
    (k : ∀ v H', L2.Same H H' → Rep S H' B Γ v e → FreshAt S H H' B Γ v e → Q v H') : rSlR S.K v lo hi H Q := by
  cases r with
  | tup h1 q1 =>
    have h : D.tup (cut _ lo hi) = e := Option.some.inj h
    subst h
    refine .inl ⟨_, _, rfl, h1, fun hw => ?_, fun _ p hp => k _ _ (same_laid hp) (new_tup ok hp (cut_reps q1)) trivial⟩
    rw [cut_whole q1 hw] at k
    exact k _ H (L2.Same.refl H) (.tup h1 q1) trivial
  | lst h1 nb q1 =>
    have h : D.lst (cut _ lo hi) = e := Option.some.inj h
    subst h
    refine .inr (.inl ⟨_, _, rfl, SqL.of h1, fun p hp => ?_⟩)
    obtain ⟨x1, x2⟩ := new_lst ok hp (cut_reps (lo := lo) (hi := hi) q1)
    exact k _ _ (same_laid hp) x1 x2
  | str l =>
    have h : (if Nat.ble l.length lineN = true then some (D.str (cut l lo hi)) else none) = some e := h
    obtain ⟨hl, he⟩ := ite_some h
    subst he
    refine .inr (.inr ⟨_, rfl, by rw [sOf_len]; exact Nat.le_trans (Nat.le_of_ble_eq_true hl) lineN_le, ?_⟩)
    have ec : cutS (sOf l) lo hi = sOf (cut l lo hi) := by
      unfold cutS cut
      rw [sOf_len, sOf_list, sIx_eq _ _ lo (Nat.zero_le _), sIx_eq _ _ hi (Nat.le_refl _)]
      rfl
    rw [ec]
    exact k _ H (L2.Same.refl H) (.str _) trivial
  | _ => cases h
theorem sl_R : SlR X (rSlR X.K) := sl_tupA.or (sl_list.or sl_str)
/-- the parts of a slice -/
theorem eok_sl_lo (hK : X.K = S.K) {ea ei : Ex} {a b : Expr} {p2 pos : Pos} (ha : PE X a (tD S H0 W C ea)) (hb : PE X b (tD S H0 W C ei)) : PE X (.Subscript a (.Slice (some b) none none p2) pos) (tD S H0 W C (.sl .lo ea [ei])) := by
  refine (pe_slice sl_R ha (po_some hb) po_none).imp fun σ H Q ⟨env, g, B, Γ, sl, ce, h⟩ => ?_
  refine tD_bind sl ce h fun d1 g1 H1 B1 Γ1 v1 sl1 ce1 s1 r1 _ h1 => ?_
  have h1 := h1.bind
  refine ⟨env, g1, B1, Γ1, sl1, ce1, ?_⟩
  cases e2 : evE C ei env g1 with
  | exc c p g2 =>
    have e : evIs C [ei] env g1 = .exc c p g2 := by show R.bind _ _ = _; rw [e2]; rfl
    rw [e] at h1; exact h1
  | no =>
    have e : evIs C [ei] env g1 = .no := by show R.bind _ _ = _; rw [e2]; rfl
    rw [e] at h1; exact h1
  | ok d2 g2 =>
    have e : evIs C [ei] env g1 = (d2.toI fun i => R.ok [.int i] g2) := by show R.bind _ _ = _; rw [e2]; cases d2 <;> rfl
    rw [e] at h1
    intro H2 B2 Γ2 ce2 s2 v2 r2 _
    cases r2 with
    | int i =>
      have h2 : Out S σ W H2 B2 Γ2 (R.of (slD .lo d1 [.int i]) g2) _ := h1 H2 B2 Γ2 ce2 s2
      obtain ⟨d, e, h3⟩ := h2.of
      refine ⟨i, rfl, ?_⟩
      rw [hK]
      exact ro_slice ce2.ok (r1.step ce1.ok s2) e fun v H' s r f => h3 H' B2 Γ2 (ce2.same s) (Same.step s) v r fun _ => (s1.trans s2).seqF f
    | _ => exact h1.elim
theorem eok_sl_hi (hK : X.K = S.K) {ea ei : Ex} {a b : Expr} {p2 pos : Pos} (ha : PE X a (tD S H0 W C ea)) (hb : PE X b (tD S H0 W C ei)) : PE X (.Subscript a (.Slice none (some b) none p2) pos) (tD S H0 W C (.sl .hi ea [ei])) := by
  refine (pe_slice sl_R ha po_none (po_some hb)).imp fun σ H Q ⟨env, g, B, Γ, sl, ce, h⟩ => ?_
  refine tD_bind sl ce h fun d1 g1 H1 B1 Γ1 v1 sl1 ce1 s1 r1 _ h1 => ?_
  have h1 := h1.bind
  refine ⟨env, g1, B1, Γ1, sl1, ce1, ?_⟩
  cases e2 : evE C ei env g1 with
  | exc c p g2 =>
    have e : evIs C [ei] env g1 = .exc c p g2 := by show R.bind _ _ = _; rw [e2]; rfl
    rw [e] at h1; exact h1
  | no =>
    have e : evIs C [ei] env g1 = .no := by show R.bind _ _ = _; rw [e2]; rfl
    rw [e] at h1; exact h1
  | ok d2 g2 =>
    have e : evIs C [ei] env g1 = (d2.toI fun i => R.ok [.int i] g2) := by show R.bind _ _ = _; rw [e2]; cases d2 <;> rfl
    rw [e] at h1
    intro H2 B2 Γ2 ce2 s2 v2 r2 _
    cases r2 with
    | int i =>
      have h2 : Out S σ W H2 B2 Γ2 (R.of (slD .hi d1 [.int i]) g2) _ := h1 H2 B2 Γ2 ce2 s2
      obtain ⟨d, e, h3⟩ := h2.of
      refine ⟨i, rfl, ?_⟩
      rw [hK]
      exact ro_slice ce2.ok (r1.step ce1.ok s2) e fun v H' s r f => h3 H' B2 Γ2 (ce2.same s) (Same.step s) v r fun _ => (s1.trans s2).seqF f
    | _ => exact h1.elim
theorem eok_sl_both (hK : X.K = S.K) {ea ei ej : Ex} {a b c : Expr} {p2 pos : Pos} (ha : PE X a (tD S H0 W C ea)) (hb : PE X b (tD S H0 W C ei)) (hc : PE X c (tD S H0 W C ej)) : PE X (.Subscript a (.Slice (some b) (some c) none p2) pos) (tD S H0 W C (.sl .both ea [ei, ej])) := by
  refine (pe_slice sl_R ha (po_some hb) (po_some hc)).imp fun σ H Q ⟨env, g, B, Γ, sl, ce, h⟩ => ?_
  refine tD_bind sl ce h fun d1 g1 H1 B1 Γ1 v1 sl1 ce1 s1 r1 _ h1 => ?_
  have h1 := h1.bind
  refine ⟨env, g1, B1, Γ1, sl1, ce1, ?_⟩
  cases e2 : evE C ei env g1 with
  | exc c p g2 =>
    have e : evIs C [ei, ej] env g1 = .exc c p g2 := by show R.bind _ _ = _; rw [e2]; rfl
    rw [e] at h1; exact h1
  | no =>
    have e : evIs C [ei, ej] env g1 = .no := by show R.bind _ _ = _; rw [e2]; rfl
    rw [e] at h1; exact h1
  | ok d2 g2 =>
    have e : evIs C [ei, ej] env g1 = (d2.toI fun i => (evIs C [ej] env g2).bind fun ds g => R.ok (.int i :: ds) g) := by show R.bind _ _ = _; rw [e2]; cases d2 <;> rfl
    rw [e] at h1
    intro H2 B2 Γ2 ce2 s2 v2 r2 _
    cases r2 with
    | int i =>
      refine ⟨i, rfl, env, g2, B2, Γ2, sl1.step ce1.ok s2, ce2, ?_⟩
      cases e3 : evE C ej env g2 with
      | exc c p g3 =>
        have e : evIs C [ej] env g2 = .exc c p g3 := by show R.bind _ _ = _; rw [e3]; rfl
        simp only [D.toI, e, R.bind] at h1
        exact fun H3 B3 Γ3 cls dd c3 s3 x => h1 H3 B3 Γ3 cls dd c3 (s2.trans s3) x
      | no =>
        have e : evIs C [ej] env g2 = .no := by show R.bind _ _ = _; rw [e3]; rfl
        simp only [D.toI, e, R.bind] at h1; exact h1
      | ok d3 g3 =>
        have e : evIs C [ej] env g2 = (d3.toI fun i => R.ok [.int i] g3) := by show R.bind _ _ = _; rw [e3]; cases d3 <;> rfl
        simp only [D.toI, e, R.bind] at h1
        intro H3 B3 Γ3 ce3 s3 v3 r3 _
        cases r3 with
        | int j =>
          have h2 : Out S σ W H3 B3 Γ3 (R.of (slD .both d1 [.int i, .int j]) g3) _ := h1 H3 B3 Γ3 ce3 (s2.trans s3)
          obtain ⟨d, e, h3⟩ := h2.of
          refine ⟨j, rfl, ?_⟩
          rw [hK]
          exact ro_slice ce3.ok ((r1.step ce1.ok s2).step ce2.ok s3) e fun v H' s r f => h3 H' B3 Γ3 (ce3.same s) (Same.step s) v r fun _ => ((s1.trans s2).trans s3).seqF f
        | _ => exact h1.elim
    | _ => exact h1.elim
end
end Rz

/-! RzS7 -/
set_option Elab.async false
set_option linter.all false
set_option maxRecDepth 100000
set_option maxHeartbeats 4000000
namespace Rz
open PySem PySem.Spec PyProof.Rows L2

/-! ### calls of defs -/
def frOf (T : Nat → Option Fn) (f : Nat) : Bool := match T f with
  | some F => F.fr
  | none => false
/-- what a def promises at n calls deep -/
def spD (S : Inf) (n f : Nat) : Sp := fun vs H Q E => ∃ ds g B Γ, ds.length = (S.ps f).length ∧ Reps S H B Γ vs ds ∧ Cells S H g B Γ ∧
  Out S [] (fun cls dd _ H => E cls dd H) H B Γ (evF S.T n f ds g) fun d g' H' B' Γ' => ∀ v, Rep S H' B' Γ' v d → (frOf S.T f = true → FreshAt S H H' B' Γ' v d) → Q v H'
/-- a def keeps its promise at n -/
structure Def (S : Inf) (n f : Nat) : Prop where
  ok : FnOk S.P S.w S.K S.mg S.base (L2.CX S.P S.w) n (S.fad f) (S.fd f) (S.ps f) (spD S n f)
/-- what a call wants to know of a def -/
structure Nm (S : Inf) (f : Nat) : Prop where
  mg : S.mg (S.nam f) = some (.ref (S.fad f))
  kp : PySem.W.keepIn S.K (.ref (S.fad f)) = true
  bd : Binds S.K (S.fd f) (S.ps f) []
/-- the body stands in S -/
structure In (S : Inf) (X : Cx) : Prop where
  P : X.prog = S.P
  w : X.w = S.w
  K : X.K = S.K
  mg : X.mg = S.mg
  base : X.base = S.base
theorem isF_call {T : Nat → Option Fn} {f : Nat} {es : List Ex} : isF T (.call f es) = frOf T f := rfl
section
variable {S : Inf} {H0 : Hp} {W : WX} {X : Cx}
theorem eok_call {n f : Nat} {e : Ex} {es : List Ex} {pe : Expr} {pes : List Expr} {x : Str} {p pos : Pos} (i : In S X) (F : Def S n f) (m : Nm S f) (hx : S.nam f = x) (hr : Room n X.A) (hg : Gl X x) (tk : Takes X W) (hl : (e :: es).length = (S.ps f).length)
    (ha : PA X (pe :: pes) (tDs S H0 W (evF S.T n) (e :: es))) (hdb : (x == ("__debug__" : Str)) = false) (he : starEach (pe :: pes) X.env = (false, eval pe X.env) :: starEach pes X.env) (hpl : (backTo pos (starEach pes X.env)).any (·.1) = false) :
    PE X (.Call (.Name x p) (pe :: pes) [] pos) (tD S H0 W (evF S.T n) (.call f (e :: es))) := by
  subst hx
  have F' := F.ok
  have m1 := m.mg
  have m2 := m.kp
  have m3 := m.bd
  rw [← i.P, ← i.w, ← i.K, ← i.mg, ← i.base] at F'
  rw [← i.mg] at m1
  rw [← i.K] at m2 m3
  refine (pe_callS F' hr hg m1 m2 m3 (fun σ => passAt tk σ) ha hdb he hpl).imp fun σ H Q ⟨env, g, B, Γ, sl, ce, h⟩ => ?_
  refine tDs_bindL sl ce h fun ds g1 H1 B1 Γ1 vs hlen sl1 ce1 s1 r1 h1 => ?_
  refine ⟨ds, g1, B1, Γ1, hlen.trans hl, r1, ce1, ?_⟩
  cases e1 : evF S.T n f ds g1 with
  | ok d g2 =>
    rw [e1] at h1
    exact fun H' B' Γ' c s v r fr => h1 H' B' Γ' c s v r fun z => s1.seqF (fr z)
  | exc c q g2 => rw [e1] at h1; exact h1
  | no => rw [e1] at h1; exact h1
theorem eok_call0 {n f : Nat} {x : Str} {p pos : Pos} (i : In S X) (F : Def S n f) (m : Nm S f) (hx : S.nam f = x) (hr : Room n X.A) (hg : Gl X x) (tk : Takes X W) (hl : 0 = (S.ps f).length) (hdb : (x == ("__debug__" : Str)) = false) :
    PE X (.Call (.Name x p) [] [] pos) (tD S H0 W (evF S.T n) (.call f [])) := by
  subst hx
  have F' := F.ok
  have m1 := m.mg
  have m2 := m.kp
  have m3 := m.bd
  rw [← i.P, ← i.w, ← i.K, ← i.mg, ← i.base] at F'
  rw [← i.mg] at m1
  rw [← i.K] at m2 m3
  refine ⟨fun pins s σ H Q I ⟨env, g, B, Γ, sl, ce, h⟩ => ?_⟩
  refine wpAny_Call_Name_kw (ld_glob I hg m1 ?_ hdb)
  refine PySem.W.callWith_K0 I.kIn m2 (run_fnS (us := []) (vs := []) (E := WE W) F' hr m3 (passAt tk σ) I .nil ?_)
  refine ⟨[], g, B, Γ, hl, .nil, ce, ?_⟩
  have h : Out S σ W H B Γ (evF S.T n f [] g) _ := h
  cases e1 : evF S.T n f [] g with
  | ok d g2 =>
    rw [e1] at h
    exact fun H' B' Γ' c s v r fr => h H' B' Γ' c s v r fun z => fr z
  | exc c q g2 => rw [e1] at h; exact h
  | no => rw [e1] at h; exact h
end
end Rz

/-! RzS8 -/
set_option Elab.async false
set_option linter.all false
set_option maxRecDepth 100000
set_option maxHeartbeats 4000000
namespace Rz
open PySem PySem.Spec PyProof.Rows L2

/-! ### built-ins -/
def RB (S : Inf) (r : List V → Hp → VK → Prop) (b : Bi) : Prop := ∀ H B Γ vs ds d Q, BadOk H B Γ → Reps S H B Γ vs ds → bi b ds = some d →
  (∀ v H', L2.Same H H' → Rep S H' B Γ v d → FreshAt S H H' B Γ v d → Q v H') → r vs H Q
section
variable {S : Inf} {H0 : Hp} {W : WX} {X : Cx} {C : Nat → List D → Gs → R D}
theorem eok_bi {r : List V → Hp → VK → Prop} {b : Bi} {es : List Ex} {pe : Expr} (h : PE X pe (tCB r (tDs S H0 W C es))) (hr : RB S r b) : PE X pe (tD S H0 W C (.bi b es)) := by
  refine h.imp fun σ H Q ⟨env, g, B, Γ, sl, ce, h⟩ => ?_
  refine tDs_bindL sl ce h fun ds g1 H1 B1 Γ1 vs hlen sl1 ce1 s1 r1 h1 => ?_
  obtain ⟨d, e, h3⟩ := h1.of
  exact hr H1 B1 Γ1 vs ds d Q ce1.ok r1 e fun v H3 s3 r3 fr => h3 H3 B1 Γ1 (ce1.same s3) (Same.step s3) v r3 fun _ => s1.seqF fr
theorem reps1 {H : Hp} {B : Bad} {Γ : List Addr} {vs : List V} {d : D} (r : Reps S H B Γ vs [d]) : ∃ v, vs = [v] ∧ Rep S H B Γ v d := by
  cases r with
  | cons h t => cases t; exact ⟨_, rfl, h⟩
theorem reps2 {H : Hp} {B : Bad} {Γ : List Addr} {vs : List V} {d e : D} (r : Reps S H B Γ vs [d, e]) : ∃ v w, vs = [v, w] ∧ Rep S H B Γ v d ∧ Rep S H B Γ w e := by
  cases r with
  | cons h t => obtain ⟨w, rfl, q⟩ := reps1 t; exact ⟨_, w, rfl, h, q⟩
theorem reps3 {H : Hp} {B : Bad} {Γ : List Addr} {vs : List V} {d e f : D} (r : Reps S H B Γ vs [d, e, f]) : ∃ v w x, vs = [v, w, x] ∧ Rep S H B Γ v d ∧ Rep S H B Γ w e ∧ Rep S H B Γ x f := by
  cases r with
  | cons h t => obtain ⟨w, x, rfl, q⟩ := reps2 t; exact ⟨_, w, x, rfl, h, q⟩
theorem bi1 {b : Bi} {ds : List D} {d : D} (e : bi b ds = some d) (h : b = .len ∨ b = .int ∨ b = .bool ∨ b = .abs ∨ b = .max1 ∨ b = .sum ∨ b = .tuple ∨ b = .list ∨ b = .lrange ∨ b = .sorted ∨ b = .any ∨ b = .all ∨ b = .str ∨ b = .isint ∨ b = .isbool ∨ b = .isstr ∨ b = .istup ∨ b = .islst) : ∃ x, ds = [x] := by
  match ds, e with
  | [], e => rcases h with h | h | h | h | h | h | h | h | h | h | h | h | h | h | h | h | h | h <;> (subst h; cases e)
  | [x], _ => exact ⟨x, rfl⟩
  | x :: y :: r, e => rcases h with h | h | h | h | h | h | h | h | h | h | h | h | h | h | h | h | h | h <;> (subst h; cases e)
theorem bi2 {b : Bi} {ds : List D} {d : D} (e : bi b ds = some d) (h : b = .min2 ∨ b = .max2 ∨ b = .lzip ∨ b = .dzip ∨ b = .join ∨ b = .split) : ∃ x y, ds = [x, y] := by
  match ds, e with
  | [], e => rcases h with h | h | h | h | h | h <;> (subst h; cases e)
  | [x], e => rcases h with h | h | h | h | h | h <;> (subst h; cases e)
  | [x, y], _ => exact ⟨x, y, rfl⟩
  | x :: y :: z :: r, e => rcases h with h | h | h | h | h | h <;> (subst h; cases e)
theorem bi3 {b : Bi} {ds : List D} {d : D} (e : bi b ds = some d) (h : b = .min3 ∨ b = .get) : ∃ x y z, ds = [x, y, z] := by
  match ds, e with
  | [], e => rcases h with h | h <;> (subst h; cases e)
  | [x], e => rcases h with h | h <;> (subst h; cases e)
  | [x, y], e => rcases h with h | h <;> (subst h; cases e)
  | [x, y, z], _ => exact ⟨x, y, z, rfl⟩
  | x :: y :: z :: w :: r, e => rcases h with h | h <;> (subst h; cases e)

/-! len -/
def rLenR (K : PySem.W.Frag) : List V → Hp → VK → Prop := fun xs H Q => (∃ p ys, xs = [.ref p] ∧ (SqL K H p ys ∨ SqT K H p ys) ∧ Q (.int ys.length) H) ∨ (∃ z : Str, xs = [.str z] ∧ z.length ≤ sizeLine ∧ Q (.int z.length) H)
theorem cr_lenR : CallR X (.builtin "len") (rLenR X.K) := fun pins s σ H xs us Q I r h => h.elim (call_len_seq pins s σ H xs us Q I r) (call_len_str pins s σ H xs us Q I r)
theorem rb_len : RB S (rLenR S.K) .len := by
  intro H B Γ vs ds d Q ok r e k
  obtain ⟨x, rfl⟩ := bi1 e (by simp)
  obtain ⟨v, rfl, h⟩ := reps1 r
  cases h with
  | tup hx q => injection e with e; subst e; rw [← q.length] at k; exact .inl ⟨_, _, rfl, .inr hx, k _ H (L2.Same.refl H) (.int _) trivial⟩
  | lst hx nb q => injection e with e; subst e; rw [← q.length] at k; exact .inl ⟨_, _, rfl, .inl (SqL.of hx), k _ H (L2.Same.refl H) (.int _) trivial⟩
  | scr hx q => injection e with e; subst e; rw [← q.length] at k; exact .inl ⟨_, _, rfl, .inl hx.seq, k _ H (L2.Same.refl H) (.int _) trivial⟩
  | str l =>
    obtain ⟨hl, he⟩ := ite_some e
    subst he
    refine .inr ⟨_, rfl, by rw [sOf_len]; exact Nat.le_trans (Nat.le_of_ble_eq_true hl) lineN_le, ?_⟩
    rw [sOf_len]
    exact k _ H (L2.Same.refl H) (.int _) trivial
  | _ => cases e
/-! int, bool, abs -/
theorem rb_int : RB S (fun xs H Q => (∃ i, xs = [.int i] ∧ Q (.int i) H) ∨ ∃ k, xs = [.bl k] ∧ Q (.int (if k then 1 else 0)) H) .int := by
  intro H B Γ vs ds d Q ok r e k
  obtain ⟨x, rfl⟩ := bi1 e (by simp)
  obtain ⟨v, rfl, h⟩ := reps1 r
  cases h with
  | int i => injection e with e; subst e; exact .inl ⟨i, rfl, k _ H (L2.Same.refl H) (.int _) trivial⟩
  | bl b => injection e with e; subst e; exact .inr ⟨b, rfl, k _ H (L2.Same.refl H) (.int _) trivial⟩
  | _ => cases e
theorem rb_bool : RB S (fun xs H Q => (∃ i, xs = [.int i] ∧ Q (.bl (i != 0)) H) ∨ ∃ k, xs = [.bl k] ∧ Q (.bl k) H) .bool := by
  intro H B Γ vs ds d Q ok r e k
  obtain ⟨x, rfl⟩ := bi1 e (by simp)
  obtain ⟨v, rfl, h⟩ := reps1 r
  cases h with
  | bl b => injection e with e; subst e; exact .inr ⟨b, rfl, k _ H (L2.Same.refl H) (.bl _) trivial⟩
  | _ => cases e
theorem rb_abs : RB S (fun xs H Q => ∃ i, xs = [.int i] ∧ Q (.int (if i < 0 then -i else i)) H) .abs := by
  intro H B Γ vs ds d Q ok r e k
  obtain ⟨x, rfl⟩ := bi1 e (by simp)
  obtain ⟨v, rfl, h⟩ := reps1 r
  cases h with
  | int i => injection e with e; subst e; exact ⟨i, rfl, k _ H (L2.Same.refl H) (.int _) trivial⟩
  | _ => cases e
theorem rb_max2 : RB S (fun xs H Q => ∃ i j, xs = [.int i, .int j] ∧ Q (.int (if j > i then j else i)) H) .max2 := by
  intro H B Γ vs ds d Q ok r e k
  obtain ⟨x, y, rfl⟩ := bi2 e (by simp)
  obtain ⟨v, w, rfl, h, h2⟩ := reps2 r
  cases h with
  | int i => cases h2 with
    | int j => injection e with e; subst e; exact ⟨i, j, rfl, k _ H (L2.Same.refl H) (.int _) trivial⟩
    | _ => cases e
  | _ => cases h2 <;> cases e
theorem rb_min2 : RB S (fun xs H Q => ∃ i j, xs = [.int i, .int j] ∧ Q (.int (if j < i then j else i)) H) .min2 := by
  intro H B Γ vs ds d Q ok r e k
  obtain ⟨x, y, rfl⟩ := bi2 e (by simp)
  obtain ⟨v, w, rfl, h, h2⟩ := reps2 r
  cases h with
  | int i => cases h2 with
    | int j => injection e with e; subst e; exact ⟨i, j, rfl, k _ H (L2.Same.refl H) (.int _) trivial⟩
    | _ => cases e
  | _ => cases h2 <;> cases e
theorem nuLt_int (i j : Int) : nuLt (.int i) (.int j) = some (decide (i < j)) := rfl
theorem nuMin3_int (i j k : Int) : nuMin3 (.int i) (.int j) (.int k) = some (.int (if k < (if j < i then j else i) then k else (if j < i then j else i))) := by
  unfold nuMin3 nuMin2
  rw [nuLt_int]
  by_cases h : j < i
  · simp only [h, decide_true, Option.map_some, if_true, Option.bind_some]
    rw [nuLt_int]
    by_cases h2 : k < j <;> simp [h2]
  · simp only [h, decide_false, Option.map_some, if_false, Option.bind_some, Bool.false_eq_true]
    rw [nuLt_int]
    by_cases h2 : k < i <;> simp [h2]
theorem rb_min3 : RB S (rNuC3 nuMin3) .min3 := by
  intro H B Γ vs ds d Q ok r e k
  obtain ⟨x, y, z, rfl⟩ := bi3 e (by simp)
  obtain ⟨v, w, u, rfl, h, h2, h3⟩ := reps3 r
  cases h with
  | int i => cases h2 with
    | int j => cases h3 with
      | int l => injection e with e; subst e; exact ⟨_, _, _, _, rfl, nuMin3_int i j l, k _ H (L2.Same.refl H) (.int _) trivial⟩
      | _ => cases e
    | _ => cases h3 <;> cases e
  | _ => cases h2 <;> cases h3 <;> cases e
/-! tuple, list -/
theorem rb_tuple : RB S (fun xs H Q => ∃ p ys, xs = [.ref p] ∧ ((SqL S.K H p ys ∧ ∀ l, H l = none → Q (.ref l) (upd H l (.tup ys))) ∨ (SqT S.K H p ys ∧ Q (.ref p) H))) .tuple := by
  intro H B Γ vs ds d Q ok r e k
  obtain ⟨x, rfl⟩ := bi1 e (by simp)
  obtain ⟨v, rfl, h⟩ := reps1 r
  cases h with
  | tup hx q => injection e with e; subst e; exact ⟨_, _, rfl, .inr ⟨hx, k _ H (L2.Same.refl H) (.tup hx q) trivial⟩⟩
  | lst hx nb q => injection e with e; subst e; exact ⟨_, _, rfl, .inl ⟨SqL.of hx, fun p hp => k _ _ (same_laid hp) (new_tup ok hp q) trivial⟩⟩
  | _ => cases e
theorem rb_list : RB S (fun xs H Q => ∃ p ys, xs = [.ref p] ∧ (SqL S.K H p ys ∨ SqT S.K H p ys) ∧ ∀ l, H l = none → Q (.ref l) (upd H l (.lst ys))) .list := by
  intro H B Γ vs ds d Q ok r e k
  obtain ⟨x, rfl⟩ := bi1 e (by simp)
  obtain ⟨v, rfl, h⟩ := reps1 r
  cases h with
  | tup hx q =>
    injection e with e; subst e
    exact ⟨_, _, rfl, .inr hx, fun p hp => let ⟨a, b⟩ := new_lst ok hp q; k _ _ (same_laid hp) a b⟩
  | lst hx nb q =>
    injection e with e; subst e
    exact ⟨_, _, rfl, .inl (SqL.of hx), fun p hp => let ⟨a, b⟩ := new_lst ok hp q; k _ _ (same_laid hp) a b⟩
  | _ => cases e
/-! sum, any, all, sorted -/
theorem reps_ints {H : Hp} {B : Bad} {Γ : List Addr} : ∀ {vs : List V} {ds : List D} {ns : List Int}, Reps S H B Γ vs ds → intsOf ds = some ns → vs = ns.map V.int ∧ ds = ns.map D.int
  | _, _, _, .nil, e => by injection e with e; subst e; exact ⟨rfl, rfl⟩
  | _, _, ns, .cons h t, e => by
    cases h with
    | int i =>
      rename_i vs ds
      have e : (intsOf ds).map (i :: ·) = some ns := e
      cases e1 : intsOf ds with
      | none => rw [e1] at e; cases e
      | some ms =>
        rw [e1] at e
        have e : i :: ms = ns := Option.some.inj e
        subst e
        obtain ⟨a, b⟩ := reps_ints t e1
        exact ⟨by rw [a]; rfl, by rw [b]; rfl⟩
    | _ => cases e
theorem reps_bls {H : Hp} {B : Bad} {Γ : List Addr} : ∀ {vs : List V} {ds : List D} {ns : List Bool}, Reps S H B Γ vs ds → blsOf ds = some ns → vs = ns.map V.bl
  | _, _, _, .nil, e => by injection e with e; subst e; rfl
  | _, _, ns, .cons h t, e => by
    cases h with
    | bl i =>
      rename_i vs ds
      have e : (blsOf ds).map (i :: ·) = some ns := e
      cases e1 : blsOf ds with
      | none => rw [e1] at e; cases e
      | some ms =>
        rw [e1] at e
        have e : i :: ms = ns := Option.some.inj e
        subst e
        rw [reps_bls t e1]; rfl
    | _ => cases e
theorem reps_of_ints {H : Hp} {B : Bad} {Γ : List Addr} : ∀ ns : List Int, Reps S H B Γ (ns.map V.int) (ns.map D.int)
  | [] => .nil
  | i :: ns => .cons (.int i) (reps_of_ints ns)
theorem rb_sum : RB S (rSum S.K) .sum := by
  intro H B Γ vs ds d Q ok r e k
  obtain ⟨x, rfl⟩ := bi1 e (by simp)
  obtain ⟨v, rfl, h⟩ := reps1 r
  cases h with
  | @lst a vs es hx nb q =>
    have e : ((intsOf es).map fun ns => D.int ns.sum) = some d := e
    cases e1 : intsOf es with
    | none => rw [e1] at e; cases e
    | some ns =>
      rw [e1] at e
      have e : D.int ns.sum = d := Option.some.inj e
      subst e
      obtain ⟨ev, _⟩ := reps_ints q e1
      subst ev
      exact ⟨a, ns, rfl, SqL.of hx, k _ H (L2.Same.refl H) (.int _) trivial⟩
  | _ => cases e
theorem rb_any : RB S (rAny S.K) .any := by
  intro H B Γ vs ds d Q ok r e k
  obtain ⟨x, rfl⟩ := bi1 e (by simp)
  obtain ⟨v, rfl, h⟩ := reps1 r
  cases h with
  | @lst a vs es hx nb q =>
    have e : ((blsOf es).map fun bs => D.bl (bs.any id)) = some d := e
    cases e1 : blsOf es with
    | none => rw [e1] at e; cases e
    | some ns =>
      rw [e1] at e
      have e : D.bl (ns.any id) = d := Option.some.inj e
      subst e
      have ev := reps_bls q e1
      subst ev
      exact ⟨a, ns, rfl, SqL.of hx, k _ H (L2.Same.refl H) (.bl _) trivial⟩
  | _ => cases e
theorem rb_all : RB S (rAll S.K) .all := by
  intro H B Γ vs ds d Q ok r e k
  obtain ⟨x, rfl⟩ := bi1 e (by simp)
  obtain ⟨v, rfl, h⟩ := reps1 r
  cases h with
  | @lst a vs es hx nb q =>
    have e : ((blsOf es).map fun bs => D.bl (bs.all id)) = some d := e
    cases e1 : blsOf es with
    | none => rw [e1] at e; cases e
    | some ns =>
      rw [e1] at e
      have e : D.bl (ns.all id) = d := Option.some.inj e
      subst e
      have ev := reps_bls q e1
      subst ev
      exact ⟨a, ns, rfl, SqL.of hx, k _ H (L2.Same.refl H) (.bl _) trivial⟩
  | _ => cases e
theorem insI_perm (x : Int) : ∀ l : List Int, (insI x l).Perm (x :: l)
  | [] => .refl _
  | y :: r => by
    unfold insI
    split
    · exact .refl _
    · exact ((insI_perm x r).cons y).trans (.swap x y r)
theorem sortI_perm : ∀ l : List Int, (sortI l).Perm l
  | [] => .refl _
  | x :: r => by
    unfold sortI
    exact (insI_perm x _).trans ((sortI_perm r).cons x)
theorem insI_sorted (x : Int) : ∀ l : List Int, l.Pairwise (· ≤ ·) → (insI x l).Pairwise (· ≤ ·)
  | [], _ => by simp [insI]
  | y :: r, h => by
    unfold insI
    rw [List.pairwise_cons] at h
    split
    · rename_i hx
      refine List.pairwise_cons.mpr ⟨fun z hz => ?_, List.pairwise_cons.mpr h⟩
      rcases List.mem_cons.mp hz with hz | hz
      · rw [hz]; exact hx
      · exact Int.le_trans hx (h.1 z hz)
    · rename_i hx
      refine List.pairwise_cons.mpr ⟨fun z hz => ?_, insI_sorted x r h.2⟩
      have hz := (insI_perm x r).mem_iff.mp hz
      rcases List.mem_cons.mp hz with hz | hz
      · rw [hz]; omega
      · exact h.1 z hz
theorem sortI_sorted : ∀ l : List Int, (sortI l).Pairwise (· ≤ ·)
  | [] => by simp [sortI]
  | x :: r => by unfold sortI; exact insI_sorted x _ (sortI_sorted r)
theorem sorted_unique {a b : List Int} (h : a.Perm b) (ha : a.Pairwise (· ≤ ·)) (hb : b.Pairwise (· ≤ ·)) : a = b :=
  h.eq_of_pairwise (le := (· ≤ ·)) (fun x y _ _ h1 h2 => Int.le_antisymm h1 h2) ha hb
theorem rb_sorted : RB S (rSorted S.K) .sorted := by
  intro H B Γ vs ds d Q ok r e k
  obtain ⟨x, rfl⟩ := bi1 e (by simp)
  obtain ⟨v, rfl, h⟩ := reps1 r
  cases h with
  | @lst a vs es hx nb q =>
    have e : (match intsOf es with | some ns => if Nat.blt ns.length 64 then some (D.lst ((sortI ns).map .int)) else none | none => none) = some d := e
    cases e1 : intsOf es with
    | none => rw [e1] at e; cases e
    | some ns =>
      rw [e1] at e
      obtain ⟨hl, he⟩ := ite_some e
      subst he
      obtain ⟨ev, _⟩ := reps_ints q e1
      subst ev
      refine ⟨a, ns, rfl, SqL.of hx, Nat.le_of_ble_eq_true hl, fun ns' p hp hs hf => ?_⟩
      have : ns' = sortI ns := sorted_unique (hp.trans (sortI_perm ns).symm) hs (sortI_sorted ns)
      subst this
      obtain ⟨x1, x2⟩ := new_lst ok hf (reps_of_ints (S := S) (sortI ns))
      exact k _ _ (same_laid hf) x1 x2
  | _ => cases e
end
end Rz

/-! RzS9 -/
set_option Elab.async false
set_option linter.all false
set_option maxRecDepth 100000
set_option maxHeartbeats 4000000
namespace Rz
open PySem PySem.Spec PyProof.Rows L2

/-! ### comprehensions -/
abbrev WF0 : WX := fun _ _ _ _ => False
def tCd (S : Inf) (H0 : Hp) (W : WX) (C : Nat → List D → Gs → R D) (c : List Ex) : TT := fun σ H Q => ∃ env g B Γ, Slots S H B Γ H0 σ env ∧ Cells S H g B Γ ∧
  Out S σ W H B Γ (evC C c env g) fun d g' H' B' Γ' => ∃ b, d = .bl b ∧ Q b H'
theorem _root_.L2.PTs.imp {X : Cx} {es : List Expr} {t t' : TT} (h : PTs X es t) (hi : ∀ σ H Q, t' σ H Q → t σ H Q) : PTs X es t' := ⟨fun pins s σ H Q I q => h.run pins s σ H Q I (hi _ _ _ q)⟩
theorem wipe_wipe (σ : L2.St) (vs : List Nat) : L2.wipe (L2.wipe σ vs) vs = L2.wipe σ vs := by
  apply List.ext_getElem?
  intro j
  rw [wipe_get, wipe_get, L2.wipe_length]
  by_cases h : j ∈ vs ∧ j < σ.length
  · rw [if_pos h, if_pos h]
  · rw [if_neg h]
section
variable {S : Inf} {H0 : Hp} {W : WX} {X : Cx} {C : Nat → List D → Gs → R D}
theorem cok_nil : PTs X [] (tCd S H0 W C []) := pts_nil.imp fun σ H Q ⟨env, g, B, Γ, sl, ce, h⟩ => by
  obtain ⟨b, e, q⟩ := h H B Γ ce .refl
  injection e with e
  subst e
  exact q
theorem cok_one {c : Ex} {pc : Expr} (h : PT X pc (tDT S H0 W C c)) : PTs X [pc] (tCd S H0 W C [c]) := (pts_one h).imp fun σ H Q ⟨env, g, B, Γ, sl, ce, h⟩ => ⟨env, g, B, Γ, sl, ce, h⟩
def compR (C : Nat → List D → Gs → R D) (e : Ex) (t : Tg) (k : ItK) (c : List Ex) (env : Env) : List D → Gs → R D := fun ds g => match items k ds with
  | none => .no
  | some xs => if Nat.ble xs.length lineN then match compL (fun env g => evE C e env g) (fun env g => evC C c env g) t xs (wipeS t.ix env) g with
      | .ok ys g => .ok (.lst ys) g
      | _ => .no
    else .no
/-- what holds between two turns -/
def LcI (S : Inf) (C : Nat → List D → Gs → R D) (e : Ex) (t : Tg) (c : List Ex) (xs : List D) (env : Env) (H1 : Hp) (B1 : Bad) (Γ1 : List Addr) (Dl : Addr) (ys : List D) (g2 : Gs) (i : Nat) (H : Hp) : Prop :=
  ∃ g B Γ acc ads, Cells S H g B Γ ∧ Step H1 B1 Γ1 H B Γ ∧ B Dl ∧ Dl ∉ Γ ∧ H Dl = some (.lst acc) ∧ Reps S H B Γ acc ads ∧ ads.length ≤ i ∧ i ≤ xs.length ∧
    ∃ ys', compL (fun env g => evE C e env g) (fun env g => evC C c env g) t (xs.drop i) env g = .ok ys' g2 ∧ ys = ads ++ ys'
theorem compL_cons {f c : Env → Gs → R D} {t : Tg} {d : D} {ds : List D} {env : Env} {g g2 : Gs} {ys : List D} (h : compL f c t (d :: ds) env g = .ok ys g2) :
    ∃ e1 g1, bindT t d env = some e1 ∧ ((c e1 g = .ok (.bl true) g1 ∧ ∃ x g3 xs, f e1 g1 = .ok x g3 ∧ compL f c t ds env g3 = .ok xs g2 ∧ ys = x :: xs) ∨ (c e1 g = .ok (.bl false) g1 ∧ compL f c t ds env g1 = .ok ys g2)) := by
  unfold compL at h
  cases e0 : bindT t d env with
  | none => rw [e0] at h; cases h
  | some e1 =>
    rw [e0] at h
    simp only at h
    refine ⟨e1, ?_⟩
    cases ec : c e1 g with
    | no => rw [ec] at h; cases h
    | exc a b g => rw [ec] at h; cases h
    | ok b g1 =>
      rw [ec] at h
      refine ⟨g1, rfl, ?_⟩
      cases b with
      | bl b =>
        cases b with
        | true =>
          simp only at h
          cases ef : f e1 g1 with
          | no => rw [ef] at h; cases h
          | exc a b g => rw [ef] at h; cases h
          | ok x g3 =>
            rw [ef] at h
            simp only at h
            cases er : compL f c t ds env g3 with
            | no => rw [er] at h; cases h
            | exc a b g => rw [er] at h; cases h
            | ok xs g4 =>
              rw [er] at h
              simp only at h
              injection h with h1 h2
              subst h1 h2
              exact .inl ⟨rfl, x, g3, xs, rfl, er, rfl⟩
        | false => exact .inr ⟨rfl, h⟩
      | _ => cases h
theorem lc_law {e : Ex} {t : Tg} {k : ItK} {es c : List Ex} {σ : L2.St} {H : Hp} {Q : VK} (h : tD S H0 W C (.comp e t k es c) σ H Q) :
    tLc (tIt S H0 W C k es) (gOf S.K t) (tCd S H0 WF0 C c) (tD S H0 WF0 C e) t.ix σ H Q := by
  obtain ⟨env, g, B, Γ, sl, ce, h⟩ := h
  refine ⟨env, g, B, Γ, sl, ce, ?_⟩
  have h : Out S σ W H B Γ ((evEs C es env g).bind (compR C e t k c env)) _ := h
  refine h.bind.imp fun ds g1 H1 B1 Γ1 ce1 s1 h1 => ?_
  unfold compR at h1
  cases ei : items k ds with
  | none => rw [ei] at h1; exact h1.elim
  | some xs =>
    rw [ei] at h1
    refine ⟨xs, rfl, fun J hJ Dl hD => ?_⟩
    simp only at h1
    by_cases hz : Nat.ble xs.length lineN = true
    · rw [if_pos hz] at h1
      have hz : xs.length ≤ lineN := Nat.le_of_ble_eq_true hz
      cases ec : compL (fun env g => evE C e env g) (fun env g => evC C c env g) t xs (wipeS t.ix env) g1 with
      | exc a b g => rw [ec] at h1; exact h1.elim
      | no => rw [ec] at h1; exact h1.elim
      | ok ys g2 =>
        rw [ec] at h1
        have h1 : ∀ H' B' Γ', Cells S H' g2 B' Γ' → Step H1 B1 Γ1 H' B' Γ' → ∀ v, Rep S H' B' Γ' v (.lst ys) → (isF S.T (.comp e t k es c) = true → FreshAt S H H' B' Γ' v (.lst ys)) → Q v H' := h1
        have nB : ¬ B1 Dl := not_bad_new ce1.ok hD
        have nG : Dl ∉ Γ1 := fun z => nB (ce1.ok.cell _ z)
        refine ⟨fun i m H' => m = xs.length - i ∧ LcI S C e t c xs (wipeS t.ix env) H1 B1 Γ1 Dl ys g2 i H', ⟨_, rfl, ?_⟩, ?_⟩
        · refine ⟨g1, fun b => B1 b ∨ b = Dl, Γ1, [], [], ⟨⟨fun a b => ?_, fun a m => .inl (ce1.ok.cell a m)⟩, ce1.len, ce1.nd, ce1.nl, fun n ds q => ?_⟩, ⟨fun b o q n => ?_, fun b q => .inl q, fun b q => ?_, fun n a q => q, fun b q => .inl q, fun b q => ?_⟩, .inr rfl, nG, upd_same, .nil, Nat.le_refl _, Nat.zero_le _, ys, by rw [List.drop_zero]; exact ec, rfl⟩
          · rcases b with b | b
            · have : a ≠ Dl := fun z => nB (by rw [← z]; exact b)
              rw [upd_ne this]; exact ce1.ok.kin a b
            · rw [b, upd_same]; exact .inl ⟨[], rfl⟩
          · obtain ⟨a, vs, q1, q2, q3⟩ := ce1.at_ n ds q
            have : a ≠ Dl := fun z => by rw [z, hD] at q2; cases q2
            exact ⟨a, vs, q1, by rw [upd_ne this]; exact q2, Reps.more' hD q3⟩
          · have : b ≠ Dl := fun z => by rw [z, hD] at q; cases q
            rw [upd_ne this]; exact q
          · rcases q with q | q
            · exact .inl q
            · exact .inr (by rw [q]; exact hD)
          · by_cases z : b = Dl
            · rw [z, upd_same]; exact fun z => nomatch z
            · rw [upd_ne z]; exact q
        · rintro i m H2 ⟨hm, g, B2, Γ2, acc, ads, ce2, s2, bD, nD, hHD, ra, hla, hix, ys', ecy, ey⟩
          have lt2 : Later H1 B1 Γ1 H2 B2 Γ2 := s2.later ce1.ok
          by_cases hi : i < xs.length
          · obtain ⟨d, hd⟩ : ∃ d, xs[i]? = some d := ⟨xs[i], by simp [hi]⟩
            have edrop : xs.drop i = d :: xs.drop (i + 1) := by
              rw [List.drop_eq_getElem_cons hi]
              have := List.getElem?_eq_getElem hi
              rw [hd] at this
              injection this with this
              rw [← this]
            rw [edrop] at ecy
            obtain ⟨e1, g3, eb, hcase⟩ := compL_cons ecy
            refine .inr ⟨hJ.go i H2 B2 Γ2 lt2 hi, LcI S C e t c xs (wipeS t.ix env) H1 B1 Γ1 Dl ys g2 (i + 1), fun H' nx => ⟨xs.length - (i + 1), by omega, rfl, nx⟩, fun x H3 hy => ?_⟩
            obtain ⟨sm, rx⟩ := hJ.yld i H2 B2 Γ2 x H3 d lt2 ce2.ok hy hd
            have sl2 : Slots S H3 B2 Γ2 H0 (L2.wipe σ t.ix) (wipeS t.ix env) := Slots.wipe (((sl.step ce.ok s1).step ce1.ok s2).step ce2.ok (Same.step sm)) t.ix
            refine gOf_ok t d (wipeS t.ix env) e1 (L2.wipe σ t.ix) x _ eb sl2 rx fun σ2 sl3 w2 => ⟨w2.trans (wipe_wipe _ _), ?_⟩
            have ce3 : Cells S H3 g B2 Γ2 := ce2.same sm
            refine ⟨e1, g, B2, Γ2, sl3, ce3, ?_⟩
            rcases hcase with ⟨ec1, y, g5, zs, ef, er, eyz⟩ | ⟨ec1, er⟩
            · rw [ec1]
              intro H4 B4 Γ4 ce4 s4
              refine ⟨true, rfl, ?_⟩
              simp only [if_true]
              refine ⟨e1, g3, B4, Γ4, sl3.step ce3.ok s4, ce4, ?_⟩
              rw [ef]
              intro H5 B5 Γ5 ce5 s5 v rv _
              have sx : Step H1 B1 Γ1 H5 B5 Γ5 := ((s2.trans (Same.step sm)).trans s4).trans s5
              have s25 : Step H2 B2 Γ2 H5 B5 Γ5 := ((Same.step sm).trans s4).trans s5
              have hHD5 : H5 Dl = some (.lst acc) := s25.ext _ _ hHD nD
              have bD5 : B5 Dl := s25.bsub _ bD
              have nD5 : Dl ∉ Γ5 := fun z => by
                rcases s25.gnew _ z with z | z
                · exact nD z
                · rw [hHD] at z; cases z
              have ra5 : Reps S H5 B5 Γ5 acc ads := ra.step ce2.ok s25
              have hl5 : acc.length < lineN := by rw [ra.length]; omega
              have ext6 : ∀ b o, H5 b = some o → ¬ B5 b → upd H5 Dl (.lst (acc ++ [v])) b = some o := fun b o q nb => by
                have nz : b ≠ Dl := fun z => nb (by rw [z]; exact bD5)
                rw [upd_ne nz]; exact q
              refine ⟨acc, hHD5, Nat.lt_of_lt_of_le hl5 lineN_le, g5, B5, Γ5, acc ++ [v], ads ++ [y], ⟨⟨fun a b => ?_, ce5.ok.cell⟩, ce5.len, ce5.nd, ce5.nl, fun n ds q => ?_⟩, ⟨fun b o q n => ?_, sx.bsub, sx.bnew, sx.gpre, sx.gnew, fun b q => ?_⟩, bD5, nD5, upd_same, Reps.rew ce5.ok ext6 (ra5.append (.cons rv .nil)), ?_, hi, zs, er, ?_⟩
              · by_cases z : a = Dl
                · rw [z, upd_same]; exact .inl ⟨_, rfl⟩
                · rw [upd_ne z]; exact ce5.ok.kin a b
              · obtain ⟨a, vs, q1, q2, q3⟩ := ce5.at_ n ds q
                have : a ≠ Dl := fun z => nD5 (by rw [← z]; exact List.mem_of_getElem? q1)
                exact ⟨a, vs, q1, by rw [upd_ne this]; exact q2, Reps.rew ce5.ok ext6 q3⟩
              · have : b ≠ Dl := fun z => by rw [z, hD] at q; cases q
                rw [upd_ne this]; exact sx.ext b o q n
              · by_cases z : b = Dl
                · rw [z, upd_same]; exact fun z => nomatch z
                · rw [upd_ne z]; exact sx.live b q
              · rw [List.length_append]
                exact Nat.succ_le_succ hla
              · rw [ey, eyz, List.append_assoc]; rfl
            · rw [ec1]
              intro H4 B4 Γ4 ce4 s4
              refine ⟨false, rfl, ?_⟩
              simp only [Bool.false_eq_true, if_false]
              have s24 : Step H2 B2 Γ2 H4 B4 Γ4 := (Same.step sm).trans s4
              refine ⟨g3, B4, Γ4, acc, ads, ce4, s2.trans s24, s24.bsub _ bD, fun z => ?_, s24.ext _ _ hHD nD, ra.step ce2.ok s24, Nat.le_succ_of_le hla, hi, ys', er, ey⟩
              rcases s24.gnew _ z with z | z
              · exact nD z
              · rw [hHD] at z; cases z
          · have hie : i = xs.length := by omega
            subst hie
            refine .inl ⟨hJ.stop H2 B2 Γ2 lt2, ?_⟩
            rw [List.drop_length] at ecy
            injection ecy with e1 e2
            subst e1 e2
            rw [List.append_nil] at ey
            subst ey
            have less : ∀ a, (B2 a ∧ a ≠ Dl) → B2 a := fun a q => q.1
            have cef : Cells S H2 g (fun b => B2 b ∧ b ≠ Dl) Γ2 := ⟨⟨fun a b => ce2.ok.kin a b.1, fun a m => ⟨ce2.ok.cell a m, fun z => nD (by rw [← z]; exact m)⟩⟩, ce2.len, ce2.nd, ce2.nl, fun n ds q => let ⟨a, vs, q1, q2, q3⟩ := ce2.at_ n ds q; ⟨a, vs, q1, q2, q3.less less⟩⟩
            have sf : Step H1 B1 Γ1 H2 (fun b => B2 b ∧ b ≠ Dl) Γ2 := ⟨s2.ext, fun b q => ⟨s2.bsub b q, fun z => nB (by rw [← z]; exact q)⟩, fun b q => s2.bnew b q.1, s2.gpre, s2.gnew, s2.live⟩
            refine h1 H2 _ Γ2 cef sf (.ref Dl) (.lst hHD (fun z => z.2 rfl) (ra.less less)) fun _ => ?_
            refine s1.seqF (H1 := H1) (d := .lst ys) ⟨Dl, acc, rfl, hD, fun z => z.2 rfl, hHD, ra.less fun a q => ?_⟩
            rcases q with q | q
            · exact q.1
            · rw [q]; exact bD
    · rw [if_neg hz] at h1; exact h1.elim
end
end Rz

/-! RzS10 -/
set_option Elab.async false
set_option linter.all false
set_option maxRecDepth 100000
set_option maxHeartbeats 4000000
namespace Rz
open PySem PySem.Spec PyProof.Rows L2

/-! ### statements: what comes out -/
section
variable (S : Inf) (H0 : Hp) (B0 : Bad) (Γ0 : List Addr) (W : WX) (fr : Bool)
def OutS (H : Hp) (B : Bad) (Γ : List Addr) (r : SR) (D : Ends) : Prop := match r with
  | .nx env' g' => ∀ σ' H' B' Γ', Slots S H' B' Γ' H0 σ' env' → Cells S H' g' B' Γ' → Step H0 B0 Γ0 H' B' Γ' → Later H B Γ H' B' Γ' → D.nx σ' H'
  | .brk env' g' => ∀ σ' H' B' Γ', Slots S H' B' Γ' H0 σ' env' → Cells S H' g' B' Γ' → Step H0 B0 Γ0 H' B' Γ' → Later H B Γ H' B' Γ' → D.bk σ' H'
  | .cnt env' g' => ∀ σ' H' B' Γ', Slots S H' B' Γ' H0 σ' env' → Cells S H' g' B' Γ' → Step H0 B0 Γ0 H' B' Γ' → Later H B Γ H' B' Γ' → D.ct σ' H'
  | .ret d g' => ∀ H' B' Γ' v, Cells S H' g' B' Γ' → Step H0 B0 Γ0 H' B' Γ' → Rep S H' B' Γ' v d → (fr = true → FreshAt S H0 H' B' Γ' v d) → D.rt v H'
  | .exc c p env' g' => ∀ σ' H' B' Γ' cls dd, Slots S H' B' Γ' H0 σ' env' → Cells S H' g' B' Γ' → Step H0 B0 Γ0 H' B' Γ' → Later H B Γ H' B' Γ' → ExR S H' B' Γ' c p cls dd → W cls dd σ' H'
  | .no => False
def tS (C : Nat → List D → Gs → R D) (s : St) : TS := fun D σ H => ∃ env g B Γ, BadOk H0 B0 Γ0 ∧ Slots S H B Γ H0 σ env ∧ Cells S H g B Γ ∧ Step H0 B0 Γ0 H B Γ ∧ OutS S H0 B0 Γ0 W fr H B Γ (evS C s env g) D
def tSs (C : Nat → List D → Gs → R D) (s : List St) : TS := fun D σ H => ∃ env g B Γ, BadOk H0 B0 Γ0 ∧ Slots S H B Γ H0 σ env ∧ Cells S H g B Γ ∧ Step H0 B0 Γ0 H B Γ ∧ OutS S H0 B0 Γ0 W fr H B Γ (evSs C s env g) D
end
section
variable {S : Inf} {H0 Hs H H1 : Hp} {B0 Bs B B1 : Bad} {Γ0 Γs Γ Γ1 : List Addr} {W : WX} {fr : Bool} {C : Nat → List D → Gs → R D} {X : Cx} {Z : Ends} {σ : L2.St} {env : Env} {g : Gs}
theorem OutS.mono {r : SR} (l : Later Hs Bs Γs H B Γ) (h : OutS S H0 B0 Γ0 W fr Hs Bs Γs r Z) : OutS S H0 B0 Γ0 W fr H B Γ r Z := by
  cases r with
  | nx env' g' => exact fun σ' H' B' Γ' a b c e => h σ' H' B' Γ' a b c (l.trans e)
  | brk env' g' => exact fun σ' H' B' Γ' a b c e => h σ' H' B' Γ' a b c (l.trans e)
  | cnt env' g' => exact fun σ' H' B' Γ' a b c e => h σ' H' B' Γ' a b c (l.trans e)
  | ret d g' => exact h
  | exc c p env' g' => exact fun σ' H' B' Γ' cls dd a b c e => h σ' H' B' Γ' cls dd a b c (l.trans e)
  | no => exact h
/-- an expression in a statement -/
theorem OutS.to {r : R D} {f : D → Gs → SR} (sl : Slots S H B Γ H0 σ env) (ce : BadOk H B Γ) (s0 : Step H0 B0 Γ0 H B Γ) (l : Later Hs Bs Γs H B Γ) (h : OutS S H0 B0 Γ0 W fr Hs Bs Γs (r.to env f) Z) :
    Out S σ W H B Γ r fun d g1 H1 B1 Γ1 => OutS S H0 B0 Γ0 W fr Hs Bs Γs (f d g1) Z := by
  cases r with
  | ok d g1 => exact fun H1 B1 Γ1 c s => h
  | exc c p g1 => exact fun H1 B1 Γ1 cls dd c1 s x => h σ H1 B1 Γ1 cls dd (sl.step ce s) c1 (s0.trans s) (l.trans (s.later ce)) x
  | no => exact h
theorem law_asg {i : Nat} {e : Ex} (h : tS S H0 B0 Γ0 W fr C (.asg i e) Z σ H) : tAsg (tD S H0 W C e) (gName i) Z σ H := by
  obtain ⟨env, g, B, Γ, ok0, sl, ce, s0, h⟩ := h
  exact ⟨env, g, B, Γ, sl, ce, (OutS.to sl ce.ok s0 .refl h).imp fun d g1 H1 B1 Γ1 c s o v r _ => o _ H1 B1 Γ1 ((sl.step ce.ok s).setP r) c (s0.trans s) (s.later ce.ok)⟩
theorem law_asg2 {i j : Nat} {e : Ex} (h : tS S H0 B0 Γ0 W fr C (.asg2 i j e) Z σ H) : tAsg2 (tD S H0 W C e) (gName i) (gName j) Z σ H := by
  obtain ⟨env, g, B, Γ, ok0, sl, ce, s0, h⟩ := h
  exact ⟨env, g, B, Γ, sl, ce, (OutS.to sl ce.ok s0 .refl h).imp fun d g1 H1 B1 Γ1 c s o v r _ => o _ H1 B1 Γ1 (((sl.step ce.ok s).setP r).setP r) c (s0.trans s) (s.later ce.ok)⟩
theorem law_unp {t : Tg} {e : Ex} (h : tS S H0 B0 Γ0 W fr C (.unp t e) Z σ H) : tAsg (tD S H0 W C e) (gOf S.K t) Z σ H := by
  obtain ⟨env, g, B, Γ, ok0, sl, ce, s0, h⟩ := h
  refine ⟨env, g, B, Γ, sl, ce, (OutS.to sl ce.ok s0 .refl h).imp fun d g1 H1 B1 Γ1 c s o v r _ => ?_⟩
  cases eb : bindT t d env with
  | none => rw [eb] at o; exact o.elim
  | some env' =>
    rw [eb] at o
    exact gOf_ok t d env env' σ v _ eb (sl.step ce.ok s) r fun σ' sl' _ => o σ' H1 B1 Γ1 sl' c (s0.trans s) (s.later ce.ok)
/-- what is bad may grow by new things; the cells don't hold lists -/
theorem Cells.bad {B' : Bad} (c : Cells S H g B Γ) (h1 : ∀ a, B a → B' a) (h2 : ∀ a, B' a → (∃ xs, H a = some (.lst xs)) ∨ ∃ kvs, H a = some (.dK kvs)) : Cells S H g B' Γ :=
  ⟨⟨h2, fun a m => h1 a (c.ok.cell a m)⟩, c.len, c.nd, c.nl, fun n ds e => let ⟨a, vs, e1, e2, r⟩ := c.at_ n ds e; ⟨a, vs, e1, e2, Reps.noL trivial r (c.nl n ds e)⟩⟩
theorem Step.grow {B' : Bad} (s : Step H B Γ H1 B1 Γ1) (h1 : ∀ a, B1 a → B' a) (h2 : ∀ a, B' a → B1 a ∨ H a = none) : Step H B Γ H1 B' Γ1 :=
  ⟨s.ext, fun b q => h1 b (s.bsub b q), fun b q => (h2 b q).elim (s.bnew b) .inr, s.gpre, s.gnew, s.live⟩
theorem fresh_notin {p : Addr} (ok : BadOk H1 B1 Γ1) (h : ¬ B1 p) : p ∉ Γ1 := fun z => h (ok.cell _ z)
/-- a fresh list or dict: its place, as an own thing -/
theorem fresh_own {v : V} {d : D} (hl : isLst d = true) (fr : FreshAt S H H1 B1 Γ1 v d) :
    ∃ p, v = .ref p ∧ H p = none ∧ ¬ B1 p ∧ ((∃ xs, H1 p = some (.lst xs)) ∨ ∃ kvs, H1 p = some (.dK kvs)) ∧ OwnAt S H1 (fun b => B1 b ∨ b = p) Γ1 p d := by
  cases d with
  | lst ds => obtain ⟨p, vs, e1, e2, e3, e4, e5⟩ := fr; exact ⟨p, e1, e2, e3, .inl ⟨_, e4⟩, vs, e4, e5⟩
  | dic ks ws => obtain ⟨p, kvs, e1, e2, e3, e4, e5, e6⟩ := fr; exact ⟨p, e1, e2, e3, .inr ⟨_, e4⟩, kvs, e4, e5, e6⟩
  | _ => cases hl
theorem own_live {S : Inf} {H H0 : Hp} {B : Bad} {Γ : List Addr} {v : Option (Option V)} {s : Sl} {p : Addr} (h : SlotOk S H B Γ H0 v s) (ho : isO s) (e : v = some (some (.ref p))) : H p ≠ none := by
  cases s with
  | u => exact ho.elim
  | p d => exact ho.elim
  | o d =>
    obtain ⟨a, e', b, n, z, r⟩ := h
    rw [e] at e'
    cases e'
    exact r.live
theorem law_own {i : Nat} {e : Ex} (hf : isF S.T e = true) (h : tS S H0 B0 Γ0 W fr C (.own i e) Z σ H) : tAsg (tD S H0 W C e) (gName i) Z σ H := by
  obtain ⟨env, g, B, Γ, ok0, sl, ce, s0, h⟩ := h
  refine ⟨env, g, B, Γ, sl, ce, (OutS.to sl ce.ok s0 .refl h).imp fun d g1 H1 B1 Γ1 c s o v r fr => ?_⟩
  cases hl : isLst d with
  | false => rw [hl] at o; exact o.elim
  | true =>
    rw [hl] at o
    obtain ⟨p, rfl, hp, nb, hk, ow⟩ := fresh_own hl (fr hf)
    have sg : Step H B Γ H1 (fun b => B1 b ∨ b = p) Γ1 := s.grow (fun _ q => .inl q) fun a q => q.elim .inl fun z => .inr (by rw [z]; exact hp)
    refine o (σ.set i (some (.ref p))) H1 _ Γ1 ((sl.step ce.ok sg).setO (.inr rfl) (fresh_notin c.ok nb) (s0.back hp) ow fun j hj e => own_live (sl.at_ j) hj e hp) (c.bad (fun _ q => .inl q) fun a q => ?_) (s0.trans sg) (sg.later ce.ok)
    rcases q with q | q
    · exact c.ok.kin a q
    · rw [q]; exact hk
theorem law_ex {e : Ex} (h : tS S H0 B0 Γ0 W fr C (.ex e) Z σ H) : tDrop (tD S H0 W C e) Z σ H := by
  obtain ⟨env, g, B, Γ, ok0, sl, ce, s0, h⟩ := h
  exact ⟨env, g, B, Γ, sl, ce, (OutS.to sl ce.ok s0 .refl h).imp fun d g1 H1 B1 Γ1 c s o v r _ => o σ H1 B1 Γ1 (sl.step ce.ok s) c (s0.trans s) (s.later ce.ok)⟩
theorem law_ret {e : Ex} (hf : fr = true → isF S.T e = true) (h : tS S H0 B0 Γ0 W fr C (.ret e) Z σ H) : tRet (tD S H0 W C e) Z σ H := by
  obtain ⟨env, g, B, Γ, ok0, sl, ce, s0, h⟩ := h
  refine ⟨env, g, B, Γ, sl, ce, (OutS.to sl ce.ok s0 .refl h).imp fun d g1 H1 B1 Γ1 c s o v r f => o H1 B1 Γ1 v c (s0.trans s) r fun z => ?_⟩
  exact s0.seqF (f (hf z))
theorem law_retN (h : tS S H0 B0 Γ0 W fr C .retN Z σ H) : tRetN Z σ H := by
  obtain ⟨env, g, B, Γ, ok0, sl, ce, s0, h⟩ := h
  exact h H B Γ .non ce s0 .non fun _ => trivial
theorem law_pass (h : tS S H0 B0 Γ0 W fr C .pass Z σ H) : tNext Z σ H := by
  obtain ⟨env, g, B, Γ, ok0, sl, ce, s0, h⟩ := h
  exact h σ H B Γ sl ce s0 .refl
theorem law_brk (h : tS S H0 B0 Γ0 W fr C .brk Z σ H) : tBreak Z σ H := by
  obtain ⟨env, g, B, Γ, ok0, sl, ce, s0, h⟩ := h
  exact h σ H B Γ sl ce s0 .refl
theorem law_cnt (h : tS S H0 B0 Γ0 W fr C .cnt Z σ H) : tCont Z σ H := by
  obtain ⟨env, g, B, Γ, ok0, sl, ce, s0, h⟩ := h
  exact h σ H B Γ sl ce s0 .refl
theorem law_never {c : Nat} {a b : Ex} {es : List Ex} (h : tS S H0 B0 Γ0 W fr C (.rai c (a :: b :: es)) Z σ H) : tNever Z σ H := by
  obtain ⟨env, g, B, Γ, ok0, sl, ce, s0, h⟩ := h
  exact h
theorem law_nil (h : tSs S H0 B0 Γ0 W fr C [] Z σ H) : tNext Z σ H := by
  obtain ⟨env, g, B, Γ, ok0, sl, ce, s0, h⟩ := h
  exact h σ H B Γ sl ce s0 .refl
theorem law_cons {s : St} {ss : List St} (h : tSs S H0 B0 Γ0 W fr C (s :: ss) Z σ H) : tSeq (tS S H0 B0 Γ0 W fr C s) (tSs S H0 B0 Γ0 W fr C ss) Z σ H := by
  obtain ⟨env, g, B, Γ, ok0, sl, ce, s0, h⟩ := h
  refine ⟨env, g, B, Γ, ok0, sl, ce, s0, ?_⟩
  have h : OutS S H0 B0 Γ0 W fr H B Γ (match evS C s env g with | .nx env g => evSs C ss env g | r => r) Z := h
  cases e : evS C s env g with
  | nx env1 g1 =>
    rw [e] at h
    exact fun σ' H' B' Γ' sl1 c1 s1 l1 => ⟨env1, g1, B', Γ', ok0, sl1, c1, s1, h.mono l1⟩
  | brk env1 g1 => rw [e] at h; exact h
  | cnt env1 g1 => rw [e] at h; exact h
  | ret d g1 => rw [e] at h; exact h
  | exc c p env1 g1 => rw [e] at h; exact h
  | no => rw [e] at h; exact h
theorem law_ite {c : Ex} {a b : List St} (h : tS S H0 B0 Γ0 W fr C (.ite c a b) Z σ H) : tIfS (tDT S H0 W C c) (tSs S H0 B0 Γ0 W fr C a) (tSs S H0 B0 Γ0 W fr C b) Z σ H := by
  obtain ⟨env, g, B, Γ, ok0, sl, ce, s0, h⟩ := h
  refine ⟨env, g, B, Γ, sl, ce, (OutS.to sl ce.ok s0 .refl h).imp fun d g1 H1 B1 Γ1 c s o => ?_⟩
  cases d with
  | bl x =>
    refine ⟨x, rfl, ?_⟩
    cases x with
    | true => simp only [if_true]; exact ⟨env, g1, B1, Γ1, ok0, sl.step ce.ok s, c, s0.trans s, OutS.mono (s.later ce.ok) o⟩
    | false => simp only [Bool.false_eq_true, if_false]; exact ⟨env, g1, B1, Γ1, ok0, sl.step ce.ok s, c, s0.trans s, OutS.mono (s.later ce.ok) o⟩
  | _ => exact o.elim
theorem law_whl {c : Ex} {body : List St} (h : tS S H0 B0 Γ0 W fr C (.whl c body) Z σ H) : tWhile (tDT S H0 W C c) (tSs S H0 B0 Γ0 W fr C body) Z σ H := by
  obtain ⟨env, g, B, Γ, ok0, sl, ce, s0, h⟩ := h
  have h : OutS S H0 B0 Γ0 W fr H B Γ (whlL (fun env g => evE C c env g) (fun env g => evSs C body env g) WF env g) Z := h
  generalize WF = n at h
  refine ⟨fun m σ' H' => ∃ env g B Γ, Slots S H' B Γ H0 σ' env ∧ Cells S H' g B Γ ∧ Step H0 B0 Γ0 H' B Γ ∧ OutS S H0 B0 Γ0 W fr H' B Γ (whlL (fun env g => evE C c env g) (fun env g => evSs C body env g) m env g) Z, ⟨n, env, g, B, Γ, sl, ce, s0, h⟩, ?_⟩
  rintro m σ1 H1 ⟨env1, g1, B1, Γ1, sl1, ce1, s1, h1⟩
  cases m with
  | zero => exact h1.elim
  | succ k =>
    refine ⟨env1, g1, B1, Γ1, sl1, ce1, ?_⟩
    unfold whlL at h1
    cases e : evE C c env1 g1 with
    | no => rw [e] at h1; exact h1
    | exc a b g2 =>
      rw [e] at h1
      exact fun H2 B2 Γ2 cls dd c2 s2 x => h1 σ1 H2 B2 Γ2 cls dd (sl1.step ce1.ok s2) c2 (s1.trans s2) (s2.later ce1.ok) x
    | ok d g2 =>
      rw [e] at h1
      intro H2 B2 Γ2 c2 s2
      cases d with
      | bl b =>
        refine ⟨b, rfl, ?_⟩
        cases b with
        | false =>
          simp only [Bool.false_eq_true, if_false]
          exact h1 σ1 H2 B2 Γ2 (sl1.step ce1.ok s2) c2 (s1.trans s2) (s2.later ce1.ok)
        | true =>
          simp only [if_true]
          simp only at h1
          refine ⟨fun σ' H' => ∃ env g B Γ, Slots S H' B Γ H0 σ' env ∧ Cells S H' g B Γ ∧ Step H0 B0 Γ0 H' B Γ ∧ OutS S H0 B0 Γ0 W fr H' B Γ (whlL (fun env g => evE C c env g) (fun env g => evSs C body env g) k env g) Z, fun σ' H' x => ⟨k, Nat.lt_succ_self k, x⟩, ?_⟩
          refine ⟨env1, g2, B2, Γ2, ok0, sl1.step ce1.ok s2, c2, s1.trans s2, ?_⟩
          cases e3 : evSs C body env1 g2 with
          | nx env3 g3 =>
            rw [e3] at h1
            exact fun σ' H' B' Γ' sl3 c3 s3 l3 => ⟨env3, g3, B', Γ', sl3, c3, s3, h1.mono ((s2.later ce1.ok).trans l3)⟩
          | cnt env3 g3 =>
            rw [e3] at h1
            exact fun σ' H' B' Γ' sl3 c3 s3 l3 => ⟨env3, g3, B', Γ', sl3, c3, s3, h1.mono ((s2.later ce1.ok).trans l3)⟩
          | brk env3 g3 =>
            rw [e3] at h1
            exact fun σ' H' B' Γ' sl3 c3 s3 l3 => h1 σ' H' B' Γ' sl3 c3 s3 ((s2.later ce1.ok).trans l3)
          | ret d g3 => rw [e3] at h1; exact h1
          | exc a b env3 g3 =>
            rw [e3] at h1
            exact fun σ' H' B' Γ' cls dd sl3 c3 s3 l3 x => h1 σ' H' B' Γ' cls dd sl3 c3 s3 ((s2.later ce1.ok).trans l3) x
          | no => rw [e3] at h1; exact h1
      | _ => exact h1.elim
theorem OutS.tos {r : R (List D)} {f : List D → Gs → SR} (sl : Slots S H B Γ H0 σ env) (ce : BadOk H B Γ) (s0 : Step H0 B0 Γ0 H B Γ) (l : Later Hs Bs Γs H B Γ) (h : OutS S H0 B0 Γ0 W fr Hs Bs Γs (match r with | .ok ds g => f ds g | .exc c p g => .exc c p env g | .no => .no) Z) :
    Out S σ W H B Γ r fun d g1 H1 B1 Γ1 => OutS S H0 B0 Γ0 W fr Hs Bs Γs (f d g1) Z := by
  cases r with
  | ok d g1 => exact fun H1 B1 Γ1 c s => h
  | exc c p g1 => exact fun H1 B1 Γ1 cls dd c1 s x => h σ H1 B1 Γ1 cls dd (sl.step ce s) c1 (s0.trans s) (l.trans (s.later ce)) x
  | no => exact h
def forF (C : Nat → List D → Gs → R D) (t : Tg) (k : ItK) (body : List St) (env : Env) : List D → Gs → SR := fun ds g => match items k ds with
  | some xs => forL (fun env g => evSs C body env g) t xs env g
  | none => .no
theorem law_for {t : Tg} {k : ItK} {es : List Ex} {body : List St} (h : tS S H0 B0 Γ0 W fr C (.for_ t k es body) Z σ H) : tFor (tIt S H0 W C k es) (gOf S.K t) (tSs S H0 B0 Γ0 W fr C body) Z σ H := by
  obtain ⟨env, g, B, Γ, ok0, sl, ce, s0, h⟩ := h
  have h : OutS S H0 B0 Γ0 W fr H B Γ (match evEs C es env g with | .ok ds g => forF C t k body env ds g | .exc c p g => .exc c p env g | .no => .no) Z := h
  refine ⟨env, g, B, Γ, sl, ce, (OutS.tos sl ce.ok s0 .refl h).imp fun ds g1 H1 B1 Γ1 ce1 s1 o => ?_⟩
  unfold forF at o
  cases ei : items k ds with
  | none => rw [ei] at o; exact o.elim
  | some xs =>
    rw [ei] at o
    refine ⟨xs, rfl, fun J hJ => ?_⟩
    have o := OutS.mono (s1.later ce.ok) o
    refine ⟨fun i m σ' H' => m = xs.length - i ∧ i ≤ xs.length ∧ ∃ env g B Γ, Slots S H' B Γ H0 σ' env ∧ Cells S H' g B Γ ∧ Step H0 B0 Γ0 H' B Γ ∧ Later H1 B1 Γ1 H' B Γ ∧ OutS S H0 B0 Γ0 W fr H' B Γ (forL (fun env g => evSs C body env g) t (xs.drop i) env g) Z,
      ⟨_, rfl, Nat.zero_le _, env, g1, B1, Γ1, sl.step ce.ok s1, ce1, s0.trans s1, .refl, by rw [List.drop_zero]; exact o⟩, ?_⟩
    rintro i m σ2 H2 ⟨hm, hi, env2, g2, B2, Γ2, sl2, ce2, s2, l2, o2⟩
    by_cases hlt : i < xs.length
    · have edrop : xs.drop i = xs[i] :: xs.drop (i + 1) := List.drop_eq_getElem_cons hlt
      have hd : xs[i]? = some xs[i] := List.getElem?_eq_getElem hlt
      generalize xs[i] = d at edrop hd
      rw [edrop] at o2
      unfold forL at o2
      refine .inr ⟨hJ.go i H2 B2 Γ2 l2 hlt, fun σ' H' => ∃ env g B Γ, Slots S H' B Γ H0 σ' env ∧ Cells S H' g B Γ ∧ Step H0 B0 Γ0 H' B Γ ∧ Later H1 B1 Γ1 H' B Γ ∧ OutS S H0 B0 Γ0 W fr H' B Γ (forL (fun env g => evSs C body env g) t (xs.drop (i + 1)) env g) Z,
        fun σ' H' x => ⟨xs.length - (i + 1), by omega, rfl, hlt, x⟩, fun x H3 hy => ?_⟩
      obtain ⟨sm, rx⟩ := hJ.yld i H2 B2 Γ2 x H3 d l2 ce2.ok hy hd
      cases eb : bindT t d env2 with
      | none => rw [eb] at o2; exact o2.elim
      | some e3 =>
        rw [eb] at o2
        simp only at o2
        refine gOf_ok t d env2 e3 σ2 x _ eb (sl2.step ce2.ok (Same.step sm)) rx fun σ3 sl3 _ => ?_
        refine ⟨e3, g2, B2, Γ2, ok0, sl3, ce2.same sm, s2.trans (Same.step sm), ?_⟩
        have l3 : Later H2 B2 Γ2 H3 B2 Γ2 := Same.later sm
        cases e4 : evSs C body e3 g2 with
        | nx env4 g4 =>
          rw [e4] at o2
          exact fun σ' H' B' Γ' sl4 c4 s4 l4 => ⟨env4, g4, B', Γ', sl4, c4, s4, (l2.trans l3).trans l4, o2.mono (l3.trans l4)⟩
        | cnt env4 g4 =>
          rw [e4] at o2
          exact fun σ' H' B' Γ' sl4 c4 s4 l4 => ⟨env4, g4, B', Γ', sl4, c4, s4, (l2.trans l3).trans l4, o2.mono (l3.trans l4)⟩
        | brk env4 g4 =>
          rw [e4] at o2
          exact fun σ' H' B' Γ' sl4 c4 s4 l4 => o2 σ' H' B' Γ' sl4 c4 s4 (l3.trans l4)
        | ret d g4 => rw [e4] at o2; exact o2
        | exc a b env4 g4 =>
          rw [e4] at o2
          exact fun σ' H' B' Γ' cls dd sl4 c4 s4 l4 x => o2 σ' H' B' Γ' cls dd sl4 c4 s4 (l3.trans l4) x
        | no => rw [e4] at o2; exact o2
    · have hie : i = xs.length := by omega
      subst hie
      rw [List.drop_length] at o2
      exact .inl ⟨hJ.stop H2 B2 Γ2 l2, o2 σ2 H2 B2 Γ2 sl2 ce2 s2 .refl⟩
end
end Rz

/-! RzS11 -/
set_option Elab.async false
set_option linter.all false
set_option maxRecDepth 100000
set_option maxHeartbeats 4000000
namespace Rz
open PySem PySem.Spec PyProof.Rows L2

section
variable {S : Inf} {H0 Hs H H1 : Hp} {B0 Bs B B1 : Bad} {Γ0 Γs Γ Γ1 : List Addr} {W : WX} {fr : Bool} {C : Nat → List D → Gs → R D} {X : Cx} {Z : Ends} {σ : L2.St} {env : Env} {g : Gs}
theorem getS_lt : ∀ {env : Env} {i : Nat}, isO (getS env i) → i < env.length
  | [], _, h => h.elim
  | _ :: _, 0, _ => Nat.succ_pos _
  | _ :: r, i + 1, h => Nat.succ_lt_succ (getS_lt (env := r) h)
/-- an own thing at a is rewritten -/
theorem Slots.write {i : Nat} {a : Addr} {d d' : D} {o' : HO} (h : Slots S H B Γ H0 σ env) (ok : BadOk H B Γ) (e : getS env i = .o d) (ea : σ[i]? = some (some (.ref a))) (b : B a) (ow : OwnAt S (upd H a o') B Γ a d') :
    Slots S (upd H a o') B Γ H0 σ (setS env i (.o d')) := by
  have oi : isO (getS env i) := by rw [e]; trivial
  have hi : i < env.length := getS_lt oi
  have ext : ∀ c o, H c = some o → ¬ B c → upd H a o' c = some o := fun c o q nb => by
    have : c ≠ a := fun z => nb (by rw [z]; exact b)
    rw [upd_ne this]; exact q
  refine ⟨by rw [setS_len]; exact h.len, fun j => ?_, fun j k x ne hj hk e1 e2 => ?_⟩
  · rw [getS_setS]
    by_cases c : i = j ∧ i < env.length
    · rw [if_pos c, ← c.1, ea]
      have q := h.at_ i
      rw [e] at q
      obtain ⟨a', e', b', n', z', r'⟩ := q
      rw [ea] at e'
      cases e'
      exact ⟨a, rfl, b', n', z', ow⟩
    · rw [if_neg c]
      have q := h.at_ j
      cases es : getS env j with
      | u => trivial
      | p dd =>
        rw [es] at q
        obtain ⟨x, e1, r⟩ := q
        exact ⟨x, e1, r.rew ok ext⟩
      | o dd =>
        rw [es] at q
        obtain ⟨x, e1, b1, n1, z1, r1⟩ := q
        have hij : i ≠ j := fun z => c ⟨z, hi⟩
        have nx : x ≠ a := fun z => h.apart i j a hij oi (by rw [es]; trivial) ea (by rw [e1, z])
        refine ⟨x, e1, b1, n1, z1, ?_⟩
        cases dd with
        | lst ds => obtain ⟨vs, q1, q2⟩ := r1; exact ⟨vs, by rw [upd_ne nx]; exact q1, q2.rew ok ext⟩
        | dic ks ws => obtain ⟨kvs, q1, q2, q3⟩ := r1; exact ⟨kvs, by rw [upd_ne nx]; exact q1, q2, q3.rew ok ext⟩
        | _ => exact r1.elim
  · have fix : ∀ m, isO (getS (setS env i (.o d')) m) → isO (getS env m) := fun m hm => by
      rw [getS_setS] at hm
      by_cases c : i = m ∧ i < env.length
      · rw [← c.1]; exact oi
      · rw [if_neg c] at hm; exact hm
    exact h.apart j k x ne (fix j hj) (fix k hk) e1 e2
theorem Cells.write {a : Addr} {o' : HO} (c : Cells S H g B Γ) (na : a ∉ Γ) (b : B a) (hk : (∃ xs, o' = .lst xs) ∨ ∃ kvs, o' = .dK kvs) : Cells S (upd H a o') g B Γ := by
  have ext : ∀ c o, H c = some o → ¬ B c → upd H a o' c = some o := fun c o q nb => by
    have : c ≠ a := fun z => nb (by rw [z]; exact b)
    rw [upd_ne this]; exact q
  refine ⟨⟨fun x bx => ?_, c.ok.cell⟩, c.len, c.nd, c.nl, fun n ds e => ?_⟩
  · by_cases z : x = a
    · rw [z, upd_same]
      rcases hk with ⟨xs, e⟩ | ⟨kvs, e⟩
      · exact .inl ⟨xs, by rw [e]⟩
      · exact .inr ⟨kvs, by rw [e]⟩
    · rw [upd_ne z]; exact c.ok.kin x bx
  · obtain ⟨x, vs, e1, e2, r⟩ := c.at_ n ds e
    have : x ≠ a := fun z => na (by rw [← z]; exact List.mem_of_getElem? e1)
    exact ⟨x, vs, e1, by rw [upd_ne this]; exact e2, r.rew c.ok ext⟩
theorem Step.write {a : Addr} {o' : HO} (s : Step H0 B0 Γ0 H B Γ) (z : H0 a = none) : Step H0 B0 Γ0 (upd H a o') B Γ :=
  ⟨fun b o e n => by
    have : b ≠ a := fun q => by rw [q, z] at e; cases e
    rw [upd_ne this]; exact s.ext b o e n, s.bsub, s.bnew, s.gpre, s.gnew, fun b n => by
    by_cases q : b = a
    · rw [q, upd_same]; exact fun z => nomatch z
    · rw [upd_ne q]; exact s.live b n⟩
theorem Later.write {a : Addr} {o' : HO} (b : B a) : Later H B Γ (upd H a o') B Γ :=
  ⟨fun c o e n => by
    have : c ≠ a := fun q => n (by rw [q]; exact b)
    rw [upd_ne this]; exact e, fun _ q => .inl q, fun _ _ e => e, fun c n => by
    by_cases q : c = a
    · rw [q, upd_same]; exact fun z => nomatch z
    · rw [upd_ne q]; exact n⟩
theorem own_at {i : Nat} {d : D} (sl : Slots S H B Γ H0 σ env) (e : getS env i = .o d) : ∃ a, σ[i]? = some (some (.ref a)) ∧ B a ∧ a ∉ Γ ∧ H0 a = none ∧ OwnAt S H B Γ a d := by
  have q := sl.at_ i
  rw [e] at q
  exact q
theorem ext_write {a : Addr} {o' : HO} (b : B a) : ∀ c o, H c = some o → ¬ B c → upd H a o' c = some o := fun c o q nb => by
  have : c ≠ a := fun z => nb (by rw [z]; exact b)
  rw [upd_ne this]; exact q
theorem noLs_set : ∀ {ds : List D} {d : D} , D.noLs ds = true → D.noL d = true → ∀ m : Nat, D.noLs (ds.set m d) = true
  | [], _, h, _, _ => h
  | x :: ds, d, h, hd, 0 => by
    rw [D.noLs, Bool.and_eq_true] at h
    show D.noLs (d :: ds) = true
    rw [D.noLs, hd, h.2]; rfl
  | x :: ds, d, h, hd, m + 1 => by
    rw [D.noLs, Bool.and_eq_true] at h
    show D.noLs (x :: ds.set m d) = true
    rw [D.noLs, h.1, noLs_set h.2 hd m]; rfl
theorem nd_ix {α : Type} : ∀ {l : List α} {i j : Nat} {x : α}, l.Nodup → l[i]? = some x → l[j]? = some x → i = j
  | [], _, _, _, _, h, _ => by simp at h
  | y :: l, 0, 0, _, _, _, _ => rfl
  | y :: l, 0, j + 1, x, nd, h1, h2 => by
    simp only [List.getElem?_cons_zero, Option.some.injEq] at h1
    simp only [List.getElem?_cons_succ] at h2
    exact absurd (List.mem_of_getElem? h2) (by rw [← h1]; exact (List.nodup_cons.mp nd).1)
  | y :: l, i + 1, 0, x, nd, h1, h2 => by
    simp only [List.getElem?_cons_zero, Option.some.injEq] at h2
    simp only [List.getElem?_cons_succ] at h1
    exact absurd (List.mem_of_getElem? h1) (by rw [← h2]; exact (List.nodup_cons.mp nd).1)
  | y :: l, i + 1, j + 1, x, nd, h1, h2 => by
    simp only [List.getElem?_cons_succ] at h1 h2
    rw [nd_ix (List.nodup_cons.mp nd).2 h1 h2]
theorem law_app {i : Nat} {e : Ex} (h : tS S H0 B0 Γ0 W fr C (.app i e) Z σ H) : tDrop (tBM S.K "list" rAppend (tVar i) (tDs S H0 W C [e])) Z σ H := by
  obtain ⟨env, g, B, Γ, ok0, sl, ce, s0, h⟩ := h
  have h : OutS S H0 B0 Γ0 W fr H B Γ (match getS env i with
    | .o (.lst ds) => (evE C e env g).to env fun d g => if Nat.blt ds.length lineN then .nx (setS env i (.o (.lst (ds ++ [d])))) g else .no
    | _ => .no) Z := h
  cases es : getS env i with
  | u => rw [es] at h; exact h.elim
  | p d => rw [es] at h; exact h.elim
  | o d =>
    rw [es] at h
    cases d with
    | lst ds =>
      obtain ⟨a, ea, ba, na, za, ow⟩ := own_at sl es
      obtain ⟨xs, hxs, _⟩ := id ow
      refine ⟨.ref a, ea, .inl ⟨rfl, xs, SqL.of hxs⟩, ?_⟩
      refine ⟨env, g, B, Γ, sl, ce, ?_⟩
      have h1 := OutS.to sl ce.ok s0 .refl h
      have h2 : Out S σ W H B Γ ((evE C e env g).bind fun d g => .ok [d] g) fun ds' g1 H1 B1 Γ1 => ∃ d, ds' = [d] ∧ OutS S H0 B0 Γ0 W fr H B Γ (if Nat.blt ds.length lineN then .nx (setS env i (.o (.lst (ds ++ [d])))) g1 else .no) Z := by
        cases ee : evE C e env g with
        | ok d g1 => rw [ee] at h1; exact fun H1 B1 Γ1 c s => ⟨d, rfl, h1 H1 B1 Γ1 c s⟩
        | exc c p g1 => rw [ee] at h1; exact h1
        | no => rw [ee] at h1; exact h1
      refine Out.imp h2 fun ds' g1 H1 B1 Γ1 c s ⟨d, ed, o⟩ vs r => ?_
      subst ed
      obtain ⟨v, rfl, rv⟩ := reps1 r
      by_cases hz : Nat.blt ds.length lineN = true
      · rw [if_pos hz] at o
        have hz : ds.length < lineN := Nat.le_of_ble_eq_true hz
        have sl1 := sl.step ce.ok s
        obtain ⟨a', ea', ba', na', za', xs1, hxs1, rx1⟩ := own_at sl1 es
        rw [ea] at ea'
        cases ea'
        refine ⟨a, xs1, v, rfl, rfl, hxs1, by rw [rx1.length]; exact Nat.lt_of_lt_of_le hz lineN_le, ?_⟩
        refine o σ _ B1 Γ1 (sl1.write c.ok es ea ba' ⟨_, upd_same, (rx1.append (.cons rv .nil)).rew c.ok (ext_write ba')⟩) (c.write na' ba' (.inl ⟨_, rfl⟩)) ((s0.trans s).write za') ((s.later ce.ok).trans (.write ba'))
      · rw [if_neg hz] at o; exact o.elim
    | _ => exact h.elim
/-! frozen, a cell -/
theorem getS_frzS : ∀ (env : Env) (i j : Nat), getS (frzS env i) j = if i = j then (getS env j).fr else getS env j
  | [], i, j => by simp [frzS, getS, Sl.fr]
  | a :: r, 0, 0 => by simp [frzS, getS]
  | a :: r, 0, j + 1 => by simp [frzS, getS]
  | a :: r, i + 1, 0 => by simp [frzS, getS]
  | a :: r, i + 1, j + 1 => by
    have := getS_frzS r i j
    simp only [frzS, getS, Nat.add_right_cancel_iff]
    exact this
theorem frzS_len : ∀ (env : Env) (i : Nat), (frzS env i).length = env.length
  | [], _ => rfl
  | _ :: r, 0 => rfl
  | _ :: r, i + 1 => by simp [frzS, frzS_len r i]
theorem frz1 (i : Nat) (sl : Slots S H B Γ H0 σ env) (ce : Cells S H g B Γ) :
    ∃ B' : Bad, Slots S H B' Γ H0 σ (frzS env i) ∧ Cells S H g B' Γ ∧ (∀ a, B' a → B a) ∧ (∀ a, B a → B' a ∨ (H0 a = none ∧ a ∉ Γ)) := by
  by_cases ho : isO (getS env i)
  · obtain ⟨d, es⟩ : ∃ d, getS env i = .o d := by
      cases es : getS env i with
      | u => rw [es] at ho; exact ho.elim
      | p d => rw [es] at ho; exact ho.elim
      | o d => exact ⟨d, rfl⟩
    obtain ⟨a, ea, ba, na, za, ow⟩ := own_at sl es
    have less : ∀ b, (B b ∧ b ≠ a) → B b := fun b q => q.1
    refine ⟨fun b => B b ∧ b ≠ a, ⟨by rw [frzS_len]; exact sl.len, fun j => ?_, fun j k x ne hj hk e1 e2 => ?_⟩, ⟨⟨fun b q => ce.ok.kin b q.1, fun b m => ⟨ce.ok.cell b m, fun z => na (by rw [← z]; exact m)⟩⟩, ce.len, ce.nd, ce.nl, fun n ds e => let ⟨x, vs, e1, e2, r⟩ := ce.at_ n ds e; ⟨x, vs, e1, e2, r.less less⟩⟩,
      less, fun b q => by
        by_cases z : b = a
        · exact .inr (by rw [z]; exact ⟨za, na⟩)
        · exact .inl ⟨q, z⟩⟩
    · rw [getS_frzS]
      by_cases c : i = j
      · subst c
        rw [if_pos rfl, es, ea]
        refine ⟨.ref a, rfl, ?_⟩
        cases d with
        | lst ds => obtain ⟨vs, e1, r⟩ := ow; exact .lst e1 (fun z => z.2 rfl) (r.less less)
        | dic ks ws => obtain ⟨kvs, e1, e2, r⟩ := ow; exact .dic e1 (fun z => z.2 rfl) e2 (r.less less)
        | _ => exact ow.elim
      · rw [if_neg c]
        have q := sl.at_ j
        cases es2 : getS env j with
        | u => trivial
        | p dd => rw [es2] at q; obtain ⟨x, e1, r⟩ := q; exact ⟨x, e1, r.less less⟩
        | o dd =>
          rw [es2] at q
          obtain ⟨x, e1, b1, n1, z1, r1⟩ := q
          have nx : x ≠ a := fun z => sl.apart i j a c ho (by rw [es2]; trivial) ea (by rw [e1, z])
          refine ⟨x, e1, ⟨b1, nx⟩, n1, z1, ?_⟩
          cases dd with
          | lst ds => obtain ⟨vs, q1, q2⟩ := r1; exact ⟨vs, q1, q2.less less⟩
          | dic ks ws => obtain ⟨kvs, q1, q2, q3⟩ := r1; exact ⟨kvs, q1, q2, q3.less less⟩
          | _ => exact r1.elim
    · have fix : ∀ m, isO (getS (frzS env i) m) → isO (getS env m) := fun m hm => by
        rw [getS_frzS] at hm
        by_cases c : i = m
        · subst c; exact ho
        · rw [if_neg c] at hm; exact hm
      exact sl.apart j k x ne (fix j hj) (fix k hk) e1 e2
  · refine ⟨B, ⟨by rw [frzS_len]; exact sl.len, fun j => ?_, fun j k x ne hj hk e1 e2 => ?_⟩, ce, fun _ q => q, fun _ q => .inl q⟩
    · rw [getS_frzS]
      by_cases c : i = j
      · subst c
        rw [if_pos rfl]
        have q := sl.at_ i
        cases es : getS env i with
        | u => trivial
        | p d => rw [es] at q; exact q
        | o d => rw [es] at ho; exact (ho trivial).elim
      · rw [if_neg c]; exact sl.at_ j
    · have fix : ∀ m, isO (getS (frzS env i) m) → isO (getS env m) := fun m hm => by
        rw [getS_frzS] at hm
        by_cases c : i = m
        · subst c
          rw [if_pos rfl] at hm
          cases es : getS env i with
          | u => rw [es] at hm; exact hm
          | p d => rw [es] at hm; exact hm
          | o d => trivial
        · rw [if_neg c] at hm; exact hm
      exact sl.apart j k x ne (fix j hj) (fix k hk) e1 e2
theorem frzL : ∀ (is : List Nat) {env : Env} {B : Bad}, Slots S H B Γ H0 σ env → Cells S H g B Γ →
    ∃ B' : Bad, Slots S H B' Γ H0 σ (frz is env) ∧ Cells S H g B' Γ ∧ (∀ a, B' a → B a) ∧ (∀ a, B a → B' a ∨ (H0 a = none ∧ a ∉ Γ))
  | [], _, B, sl, ce => ⟨B, sl, ce, fun _ q => q, fun _ q => .inl q⟩
  | i :: is, _, B, sl, ce => by
    obtain ⟨B1, sl1, ce1, l1, k1⟩ := frz1 i sl ce
    obtain ⟨B2, sl2, ce2, l2, k2⟩ := frzL is sl1 ce1
    exact ⟨B2, sl2, ce2, fun a q => l1 a (l2 a q), fun a q => (k1 a q).elim (k2 a) .inr⟩
theorem law_frz {is : List Nat} {ss : List St} (h : tSs S H0 B0 Γ0 W fr C (.frz is :: ss) Z σ H) : tSs S H0 B0 Γ0 W fr C ss Z σ H := by
  obtain ⟨env, g, B, Γ, ok0, sl, ce, s0, h⟩ := h
  have h : OutS S H0 B0 Γ0 W fr H B Γ (evSs C ss (frz is env) g) Z := h
  obtain ⟨B', sl', ce', l', k'⟩ := frzL is sl ce
  refine ⟨frz is env, g, B', Γ, ok0, sl', ce', ⟨s0.ext, fun b q => ?_, fun b q => s0.bnew b (l' b q), s0.gpre, s0.gnew, s0.live⟩, h.mono ⟨fun _ _ e _ => e, fun b q => .inl (l' b q), fun _ _ e => e, fun _ q => q⟩⟩
  rcases k' b (s0.bsub b q) with z | z
  · exact z
  · exact absurd z.1 (ok0.live q)
/-- own things frozen for one expression -/
theorem fz_out {is : List Nat} {e : Ex} {Q : D → Gs → Hp → Bad → List Addr → Prop} (sl : Slots S H B Γ H0 σ env) (ce : Cells S H g B Γ)
    (h : Out S σ W H B Γ (evE C (.fz is e) env g) Q) : ∃ B', Slots S H B' Γ H0 σ (frz is env) ∧ Cells S H g B' Γ ∧
      Out S σ W H B' Γ (evE C e (frz is env) g) fun d g' H' B1 Γ' => D.noL d = true ∧ ∃ B2, Q d g' H' B2 Γ' := by
  obtain ⟨B', sl', ce', l', k'⟩ := frzL (H0 := H0) is sl ce
  refine ⟨B', sl', ce', ?_⟩
  have h : Out S σ W H B Γ (match evE C e (frz is env) g with | .ok d g => if D.noL d then .ok d g else .no | _ => .no) Q := h
  cases ee : evE C e (frz is env) g with
  | exc c p g' => rw [ee] at h; exact h.elim
  | no => rw [ee] at h; exact h.elim
  | ok d g' =>
    rw [ee] at h
    simp only at h
    by_cases hn : D.noL d = true
    · rw [if_pos hn] at h
      refine fun H' B1 Γ' c s => ⟨hn, fun b => B1 b ∨ B b, h H' _ Γ' (c.bad (fun _ q => .inl q) fun a q => ?_) ⟨s.ext, fun b q => .inr q, fun b q => ?_, s.gpre, s.gnew, s.live⟩⟩
      · rcases q with q | q
        · exact c.ok.kin a q
        · rcases k' a q with z | z
          · exact c.ok.kin a (s.bsub a z)
          · rcases ce.ok.kin a q with ⟨xs, e⟩ | ⟨kvs, e⟩
            · exact .inl ⟨xs, s.ext _ _ e z.2⟩
            · exact .inr ⟨kvs, s.ext _ _ e z.2⟩
      · rcases q with q | q
        · exact (s.bnew b q).elim (fun z => .inl (l' b z)) .inr
        · exact .inl q
    · rw [if_neg hn] at h; exact h.elim
theorem law_fz {is : List Nat} {e : Ex} {Q : VK} (h : tD S H0 W C (.fz is e) σ H Q) : tD S H0 W C e σ H Q := by
  obtain ⟨env, g, B, Γ, sl, ce, h⟩ := h
  obtain ⟨B', sl', ce', h⟩ := fz_out sl ce h
  exact ⟨_, g, B', Γ, sl', ce', h.imp fun d g' H' B1 Γ' c s ⟨hn, B2, q⟩ v r _ => q v (Rep.noL trivial r hn) fun z => nomatch z⟩
theorem law_fzT {is : List Nat} {e : Ex} {Q : Bool → Hp → Prop} (h : tDT S H0 W C (.fz is e) σ H Q) : tDT S H0 W C e σ H Q := by
  obtain ⟨env, g, B, Γ, sl, ce, h⟩ := h
  obtain ⟨B', sl', ce', h⟩ := fz_out sl ce h
  exact ⟨_, g, B', Γ, sl', ce', h.imp fun d g' H' B1 Γ' c s ⟨hn, B2, q⟩ => q⟩
theorem law_cel {i : Nat} {e : Ex} (hf : isF S.T e = true) (h : tS S H0 B0 Γ0 W fr C (.cel i e) Z σ H) : tAsg (tD S H0 W C e) (gName i) Z σ H := by
  obtain ⟨env, g, B, Γ, ok0, sl, ce, s0, h⟩ := h
  refine ⟨env, g, B, Γ, sl, ce, (OutS.to sl ce.ok s0 .refl h).imp fun d g1 H1 B1 Γ1 c s o v r f => ?_⟩
  cases d with
  | lst ds =>
    simp only at o
    by_cases hn : D.noLs ds = true
    · rw [if_pos hn] at o
      obtain ⟨p, vs, rfl, hp, nb, hv, rv⟩ := f hf
      have np : p ∉ Γ1 := fresh_notin c.ok nb
      have glen : (Γ1 ++ [p])[g1.length]? = some p := by rw [← c.len]; simp
      have gpre : ∀ (n : Nat) (a : Addr), Γ1[n]? = some a → (Γ1 ++ [p])[n]? = some a := fun n a q => by
        rw [List.getElem?_append_left (List.getElem?_eq_some_iff.mp q).1]; exact q
      have sg : Step H B Γ H1 (fun b => B1 b ∨ b = p) (Γ1 ++ [p]) := ⟨s.ext, fun b q => .inl (s.bsub b q), fun b q => q.elim (s.bnew b) fun z => .inr (by rw [z]; exact hp), fun n a q => gpre n a (s.gpre n a q), fun b q => by
        rcases List.mem_append.mp q with q | q
        · exact s.gnew b q
        · rw [List.mem_singleton.mp q]; exact .inr hp, s.live⟩
      have l2 : Later H1 B1 Γ1 H1 B1 (Γ1 ++ [p]) := ⟨fun _ _ e _ => e, fun _ q => .inl q, gpre, fun _ q => q⟩
      have cg : Cells S H1 (g1 ++ [ds]) (fun b => B1 b ∨ b = p) (Γ1 ++ [p]) := by
        refine ⟨⟨fun a q => ?_, fun a q => ?_⟩, by rw [List.length_append, List.length_append, c.len]; rfl, ?_, fun n es e => ?_, fun n es e => ?_⟩
        · rcases q with q | q
          · exact c.ok.kin a q
          · rw [q]; exact .inl ⟨_, hv⟩
        · rcases List.mem_append.mp q with q | q
          · exact .inl (c.ok.cell a q)
          · exact .inr (List.mem_singleton.mp q)
        · refine List.nodup_append.mpr ⟨c.nd, by simp, fun a ha b hb => ?_⟩
          rw [List.mem_singleton.mp hb]
          exact fun z => np (by rw [← z]; exact ha)
        · by_cases q : n < g1.length
          · rw [List.getElem?_append_left q] at e; exact c.nl n es e
          · rw [List.getElem?_append_right (by omega)] at e
            have : n - g1.length = 0 := by
              have := (List.getElem?_eq_some_iff.mp e).1
              simp at this; omega
            rw [this] at e
            have e : ds = es := by simpa using e
            rw [← e]; exact hn
        · by_cases q : n < g1.length
          · rw [List.getElem?_append_left q] at e
            obtain ⟨a, ws, e1, e2, e3⟩ := c.at_ n es e
            exact ⟨a, ws, gpre n a e1, e2, Reps.noL trivial (e3.later c.ok l2) (c.nl n es e)⟩
          · rw [List.getElem?_append_right (by omega)] at e
            have hz : n - g1.length = 0 := by
              have := (List.getElem?_eq_some_iff.mp e).1
              simp at this; omega
            rw [hz] at e
            have e : ds = es := by simpa using e
            have hne : n = g1.length := by omega
            subst hne e
            refine ⟨p, vs, glen, hv, Reps.noL trivial (Reps.later (B := fun b => B1 b ∨ b = p) ⟨fun a q => ?_, fun a q => .inl (c.ok.cell a q)⟩ ⟨fun _ _ e _ => e, fun _ q => .inl q, gpre, fun _ q => q⟩ rv) hn⟩
            rcases q with q | q
            · exact c.ok.kin a q
            · rw [q]; exact .inl ⟨_, hv⟩
      exact o (σ.set i (some (.ref p))) H1 _ _ ((sl.step ce.ok sg).setP (.mref glen)) cg (s0.trans sg) (sg.later ce.ok)
    · rw [if_neg hn] at o; exact o.elim
  | _ => exact o.elim
end
end Rz

/-! RzS12 -/
set_option Elab.async false
set_option linter.all false
set_option maxRecDepth 100000
set_option maxHeartbeats 4000000
namespace Rz
open PySem PySem.Spec PyProof.Rows L2

/-! ### a, b, .. = x, y, .. -/
def SetAll (σ : L2.St) (js : List Nat) (vs : List V) (σ' : L2.St) : Prop :=
  σ'.length = σ.length ∧ (∀ j v, (j, v) ∈ js.zip vs → σ'[j]? = if j < σ.length then some (some v) else none) ∧ ∀ j, j ∉ js → σ'[j]? = σ[j]?
def tParG (js : List Nat) (ta : TA) : TS := fun D σ H => ta σ H fun vs H1 => vs.length = js.length ∧ vs.length ≤ sizeLine ∧ ∀ σ' H2, SetAll σ js vs σ' → L2.Same H1 H2 → D.nx σ' H2
theorem SetAll.nil (σ : L2.St) : SetAll σ [] [] σ := ⟨rfl, fun _ _ h => by simp at h, fun _ _ => rfl⟩
theorem SetAll.cons {σ σ' : L2.St} {j : Nat} {v : V} {js : List Nat} {vs : List V} (hj : j ∉ js) (h : SetAll (σ.set j (some v)) js vs σ') : SetAll σ (j :: js) (v :: vs) σ' := by
  obtain ⟨h1, h2, h3⟩ := h
  rw [List.length_set] at h1 h2
  refine ⟨h1, fun i w hm => ?_, fun i hi => ?_⟩
  · rcases List.mem_cons.mp (show (i, w) ∈ (j, v) :: js.zip vs from hm) with e | hm
    · injection e with e1 e2
      subst e1 e2
      rw [h3 i hj, List.getElem?_set]
      simp
    · exact h2 i w hm
  · have hi : ¬ (i = j) ∧ i ∉ js := by simpa [List.mem_cons, not_or] using hi
    rw [h3 i hi.2, List.getElem?_set_ne (fun z => hi.1 z.symm)]
theorem zip_rev {α β : Type} : ∀ {as : List α} {bs : List β}, as.length = bs.length → as.reverse.zip bs.reverse = (as.zip bs).reverse
  | [], [], _ => rfl
  | [], _ :: _, h => by simp at h
  | _ :: _, [], h => by simp at h
  | a :: as, b :: bs, h => by
    have h : as.length = bs.length := by simpa using h
    rw [List.reverse_cons, List.reverse_cons, List.zip_append (by simp [h]), zip_rev h]
    simp
theorem SetAll.rev {σ σ' : L2.St} {js : List Nat} {vs : List V} (hl : js.length = vs.length) (h : SetAll σ js.reverse vs.reverse σ') : SetAll σ js vs σ' := by
  obtain ⟨h1, h2, h3⟩ := h
  refine ⟨h1, fun j v hm => h2 j v ?_, fun j hj => h3 j (by simpa using hj)⟩
  rw [zip_rev hl]; simpa using hm
section
variable {X : Cx} {pins : List (Addr × Obj)} {H : Hp}
theorem stores_ok {E : Value → Shared → Prop} {Q : Shared → Prop} (hN : X.N.Nodup) {names : List Str} {js : List Nat} (hp : Paired (fun x j => X.N[j]? = some x) names js) : ∀ (vs : List V) (us : List Value) (σ : L2.St) (s : Shared), L2.Inv X pins σ H s → js.Nodup →
    (∀ x ∈ names, X.env.scope.names.lookup x = some .local) → Vals vs us → vs.length = js.length →
    (∀ σ' s', L2.Inv X pins σ' H s' → SetAll σ js vs σ' → Q s') → wpAny (model X.prog X.w) X.A (assignInOrder (names.map fun n => bindName X.env n) us) (fun _ s' => Q s') E s := by
  induction hp with
  | nil =>
    intro vs us σ s I _ _ r hl k
    cases r with
    | nil => exact assignInOrder_nil (k σ s I (.nil σ))
    | cons _ _ => simp at hl
  | cons hx hr ih =>
    intro vs us σ s I nd hloc r hl k
    cases r with
    | nil => simp at hl
    | cons r rr =>
      have lx := hloc _ (List.mem_cons_self ..)
      obtain ⟨nd1, nd2⟩ := List.nodup_cons.mp nd
      refine assignInOrder_cons (wpAny_bindName (store_ok I hN hx (.inl lx) r (fun s2 I2 => ?_) (.inr lx)))
      exact ih _ _ _ s2 I2 nd2 (fun y hy => hloc y (List.mem_cons_of_mem _ hy)) rr (by simpa using hl) fun σ' s' I' h => k σ' s' I' (.cons nd1 h)
theorem paired_app {α β : Type} {P : α → β → Prop} {as cs : List α} {bs ds : List β} (h : Paired P as bs) (h2 : Paired P cs ds) : Paired P (as ++ cs) (bs ++ ds) := by
  induction h with
  | nil => exact h2
  | cons r t ih => exact .cons r ih
theorem paired_rev {α β : Type} {P : α → β → Prop} {as : List α} {bs : List β} (h : Paired P as bs) : Paired P as.reverse bs.reverse := by
  induction h with
  | nil => exact .nil
  | cons r t ih => rw [List.reverse_cons, List.reverse_cons]; exact paired_app ih (.cons r .nil)
theorem ps_parA {ts es : List Expr} {kt k2 : Nat} {pt pt2 pos : Pos} {ta : TA} {names : List Str} {js : List Nat} (hc : X.calm = true) (hN : X.N.Nodup) (hj : Paired (fun x j => X.N[j]? = some x) names js) (hnd : js.Nodup)
    (hloc : ∀ x ∈ names, X.env.scope.names.lookup x = some .local) (ha : PA X es ta)
    (hw : swappedStores [.Tuple ts kt pt] (.Tuple es k2 pt2) X.env = pure (some names)) (hs : swapsWithSole [.Tuple ts kt pt] (.Tuple es k2 pt2) pos.line X.env = pure false) :
    PS X (.Assign [.Tuple ts kt pt] (.Tuple es k2 pt2) pos) (tParG js ta) := by
  refine ⟨fun pins s σ H D I h => ?_⟩
  rw [exec_Assign_arm]
  refine wpAny_bind (wpAny_standAt ?_)
  rw [hs]
  refine wpAny_bind (wpAny_pure ?_)
  rw [if_neg (by decide)]
  refine wpAny_bind (Tuple_ (thn (ha.run _ pins s σ H _ I h) fun us s1 ⟨vs, H1, I1, r1, hl, hz, q1⟩ => ?_))
  refine wpAny_newObj_type ?_ (by show us.toArray.size ≤ sizeLine; rw [List.size_toArray, ← r1.length]; exact hz)
  have I2 : L2.Inv X pins σ H1 { s1 with heap := s1.heap.push { cls := .type "tuple", data := .seq us.toArray } } := I1.kept (t' := s1.toks) fun b o e => Heap.get?_push_of_some _ e
  rw [hw]
  refine wpAny_bind (wpAny_pure ?_)
  show wpAny (model X.prog X.w) X.A (do rule "assign.swapped-stores"; let items ← unpackItems (.ref s1.heap.objs.size) names.length none; assignInOrder (names.reverse.map fun n => bindName X.env n) items.reverse; pure Flow.next) _ _ _
  have hnl : names.length = us.toArray.size := by rw [List.size_toArray, ← r1.length, hl]; exact hj.length
  rw [hnl]
  refine wpAny_bind (wpAny_rule (wpAny_bind (unpackItems_tuple (items := us.toArray) (I.ok.hd hc) (IsTup.new s1.heap _) fun h' hx' => ?_)))
  have I3 := I2.kept (h' := h') (t' := s1.toks) fun b o e => hx' b o (Nat.ne_of_lt (Heap.lt_size e)) e
  show wpAny _ _ (assignInOrder (names.reverse.map fun n => bindName X.env n) us.reverse >>= fun _ => pure Flow.next) _ _ _
  refine wpAny_bind (stores_ok hN (paired_rev hj) vs.reverse us.reverse σ _ I3 (List.pairwise_reverse.mpr (hnd.imp Ne.symm)) (fun x hx => hloc x (by simpa using hx)) r1.reverse (by simp [hl]) fun σ' s' I' h => wpAny_pure ?_)
  exact ⟨σ', H1, I', q1 σ' H1 (.rev hl.symm h) (L2.Same.refl H1)⟩
def gNames : List Nat → TGs
  | [] => gNil
  | j :: js => gCons (gName j) (gNames js)
theorem gNames_ok : ∀ (js : List Nat) (vs : List V) (σ : L2.St) (H : Hp) (Q : L2.St → Hp → Prop), js.Nodup → vs.length = js.length → (∀ σ', SetAll σ js vs σ' → Q σ' H) → gNames js vs σ H Q
  | [], [], σ, H, Q, _, _, k => ⟨rfl, k σ (.nil σ)⟩
  | [], _ :: _, _, _, _, _, hl, _ => by simp at hl
  | _ :: _, [], _, _, _, _, hl, _ => by simp at hl
  | j :: js, v :: vs, σ, H, Q, nd, hl, k => by
    obtain ⟨nd1, nd2⟩ := List.nodup_cons.mp nd
    exact ⟨v, vs, rfl, gNames_ok js vs _ H Q nd2 (by simpa using hl) fun σ' h => k σ' (.cons nd1 h)⟩
def tMo (ta : TA) : TA := fun σ H Q => ∃ K, ta σ H K ∧ ∀ vs H', K vs H' → Q vs H'
theorem pa_mo {es : List Expr} {ta : TA} (h : PA X es ta) : PA X es (tMo ta) := ⟨fun pos pins s σ H Q I ⟨K, hk, imp⟩ => thn (h.run pos pins s σ H K I hk) fun us s1 ⟨vs, H1, I1, r1, q⟩ => ⟨vs, H1, I1, r1, imp _ _ q⟩⟩
/-- through a tuple -/
theorem ps_parB {ts es : List Expr} {kt k2 : Nat} {pt pt2 pos : Pos} {ta : TA} {js : List Nat} (hc : X.calm = true) (hnd : js.Nodup) (hg : PGs X ts (gNames js)) (hn : (assignEach ts X.env).length = js.length) (hst : (assignEach ts X.env).findIdx? (·.1) = none)
    (ha : PA X es ta) (hw : swappedStores [.Tuple ts kt pt] (.Tuple es k2 pt2) X.env = pure none) (hs : swapsWithSole [.Tuple ts kt pt] (.Tuple es k2 pt2) pos.line X.env = pure false)
    (h1 : (assignEach [.Tuple ts kt pt] X.env).map (·.2) = [assign (.Tuple ts kt pt) X.env]) :
    PS X (.Assign [.Tuple ts kt pt] (.Tuple es k2 pt2) pos) (tParG js ta) := by
  refine (ps_asg (pe_tup (pa_mo ha)) (pg_tup hc hg hn hst) hs hw h1).imp fun D σ H h => ?_
  refine ⟨_, h, fun vs H1 ⟨hl, hz, q⟩ => ⟨hz, fun p hp => ?_⟩⟩
  exact ⟨p, vs, rfl, SqT.of upd_same, hl, gNames_ok js vs σ _ _ hnd hl fun σ' hs => q σ' _ hs (same_laid hp)⟩
end

/-! ### the law -/
section
variable {S : Inf} {H0 Hs Hb H H1 H' : Hp} {B0 Bs B B1 B' : Bad} {Γ0 Γs Γ Γ1 Γ' : List Addr} {W : WX} {fr : Bool} {C : Nat → List D → Gs → R D} {X : Cx} {Z : Ends} {σ : L2.St} {env : Env} {g : Gs}
/-- parts, some of them own and new since Hb -/
inductive Pars (S : Inf) (Hb H : Hp) (B : Bad) (Γ : List Addr) : List Bool → List V → List D → Prop
  | nil : Pars S Hb H B Γ [] [] []
  | val {v : V} {d : D} {os : List Bool} {vs : List V} {ds : List D} : Rep S H B Γ v d → Pars S Hb H B Γ os vs ds → Pars S Hb H B Γ (false :: os) (v :: vs) (d :: ds)
  | own {p : Addr} {d : D} {os : List Bool} {vs : List V} {ds : List D} : Hb p = none → B p → p ∉ Γ → OwnAt S H B Γ p d → (∀ k : Nat, os[k]? = some true → vs[k]? ≠ some (.ref p)) → Pars S Hb H B Γ os vs ds → Pars S Hb H B Γ (true :: os) (.ref p :: vs) (d :: ds)
theorem Pars.new {os : List Bool} {vs : List V} {ds : List D} (h : Pars S Hb H B Γ os vs ds) : ∀ {k : Nat} {p : Addr}, os[k]? = some true → vs[k]? = some (.ref p) → Hb p = none := by
  induction h with
  | nil => intro k p e; simp at e
  | val _ _ ih =>
    intro k p e1 e2
    cases k with
    | zero => simp at e1
    | succ k => exact ih (by simpa using e1) (by simpa using e2)
  | own hp _ _ _ _ _ ih =>
    intro k p e1 e2
    cases k with
    | zero => simp at e2; rw [← e2]; exact hp
    | succ k => exact ih (by simpa using e1) (by simpa using e2)
theorem Pars.back {os : List Bool} {vs : List V} {ds : List D} (hb : ∀ b, H1 b = none → Hb b = none) (h : Pars S H1 H B Γ os vs ds) : Pars S Hb H B Γ os vs ds := by
  induction h with
  | nil => exact .nil
  | val r _ ih => exact .val r ih
  | own hp b n w d _ ih => exact .own (hb _ hp) b n w d ih
theorem Pars.len {os : List Bool} {vs : List V} {ds : List D} (h : Pars S Hb H B Γ os vs ds) : vs.length = os.length ∧ ds.length = os.length := by
  induction h with
  | nil => exact ⟨rfl, rfl⟩
  | val _ _ ih => exact ⟨congrArg Nat.succ ih.1, congrArg Nat.succ ih.2⟩
  | own _ _ _ _ _ _ ih => exact ⟨congrArg Nat.succ ih.1, congrArg Nat.succ ih.2⟩
theorem Pars.at_ {os : List Bool} {vs : List V} {ds : List D} (h : Pars S Hb H B Γ os vs ds) : ∀ {k : Nat} {o : Bool}, os[k]? = some o → ∃ v d, vs[k]? = some v ∧ ds[k]? = some d ∧
    (if o then ∃ p, v = .ref p ∧ Hb p = none ∧ B p ∧ p ∉ Γ ∧ OwnAt S H B Γ p d else Rep S H B Γ v d) := by
  induction h with
  | nil => intro k o e; simp at e
  | val r _ ih =>
    intro k o e
    cases k with
    | zero => simp at e; subst e; exact ⟨_, _, rfl, rfl, by simp only [Bool.false_eq_true, if_false]; exact r⟩
    | succ k => obtain ⟨v, d, e1, e2, q⟩ := ih (k := k) (by simpa using e); exact ⟨v, d, by simpa using e1, by simpa using e2, q⟩
  | own hp b n w d _ ih =>
    intro k o e
    cases k with
    | zero => simp at e; subst e; exact ⟨_, _, rfl, rfl, by simp only [if_true]; exact ⟨_, rfl, hp, b, n, w⟩⟩
    | succ k => obtain ⟨v, d, e1, e2, q⟩ := ih (k := k) (by simpa using e); exact ⟨v, d, by simpa using e1, by simpa using e2, q⟩
theorem Pars.apart {os : List Bool} {vs : List V} {ds : List D} (h : Pars S Hb H B Γ os vs ds) : ∀ {k l : Nat} {p : Addr}, k < l → os[k]? = some true → os[l]? = some true → vs[k]? = some (.ref p) → vs[l]? = some (.ref p) → False := by
  induction h with
  | nil => intro k l p _ e; simp at e
  | val r _ ih =>
    intro k l p hl e1 e2 e3 e4
    cases l with
    | zero => omega
    | succ l =>
      cases k with
      | zero => simp at e1
      | succ k => exact ih (k := k) (l := l) (p := p) (by omega) (by simpa using e1) (by simpa using e2) (by simpa using e3) (by simpa using e4)
  | own hp b n w d _ ih =>
    intro k l p hl e1 e2 e3 e4
    cases l with
    | zero => omega
    | succ l =>
      cases k with
      | zero =>
        simp at e3
        subst e3
        exact d l (by simpa using e2) (by simpa using e4)
      | succ k => exact ih (k := k) (l := l) (p := p) (by omega) (by simpa using e1) (by simpa using e2) (by simpa using e3) (by simpa using e4)
def tAs (S : Inf) (H0 : Hp) (W : WX) (C : Nat → List D → Gs → R D) : List Ex → TA
  | [] => tNil
  | e :: es => tCons (tD S H0 W C e) (tAs S H0 W C es)
theorem par_core : ∀ (os : List Bool) (es : List Ex) {H : Hp} {B : Bad} {Γ : List Addr} {g : Gs} {Qd : List D → Gs → Hp → Bad → List Addr → Prop} {Q : List V → Hp → Prop}, os.length = es.length → (∀ (k : Nat) (e : Ex), os[k]? = some true → es[k]? = some e → isF S.T e = true) →
    Step Hs Bs Γs H B Γ → Slots S H B Γ H0 σ env → Cells S H g B Γ → Out S σ W Hs Bs Γs (evEs C es env g) Qd →
    (∀ ds g' H' B' Γ' vs, Cells S H' g' B' Γ' → Step Hs Bs Γs H' B' Γ' → Step H B Γ H' B' Γ' → Slots S H' B' Γ' H0 σ env → Qd ds g' H' B' Γ' → Pars S H H' B' Γ' os vs ds → Q vs H') →
    (∀ ds g', evEs C es env g = .ok ds g' → ∀ (k : Nat) (d : D), os[k]? = some true → ds[k]? = some d → isLst d = true) → tAs S H0 W C es σ H Q
  | [], [], H, B, Γ, g, Qd, Q, _, _, st, sl, ce, h, K, _ => K [] g H B Γ [] ce st .refl sl (h H B Γ ce st) .nil
  | [], _ :: _, _, _, _, _, _, _, hl, _, _, _, _, _, _, _ => by simp at hl
  | _ :: _, [], _, _, _, _, _, _, hl, _, _, _, _, _, _, _ => by simp at hl
  | o :: os, e :: es, H, B, Γ, g, Qd, Q, hl, hf, st, sl, ce, h, K, hL => by
    have h : Out S σ W Hs Bs Γs ((evE C e env g).bind fun d g => (evEs C es env g).bind fun ds g => .ok (d :: ds) g) Qd := h
    have hL : ∀ ds g', ((evE C e env g).bind fun d g => (evEs C es env g).bind fun ds g => R.ok (d :: ds) g) = .ok ds g' → ∀ (k : Nat) (d : D), (o :: os)[k]? = some true → ds[k]? = some d → isLst d = true := hL
    refine ⟨env, g, B, Γ, sl, ce, ?_⟩
    cases ee : evE C e env g with
    | no => rw [ee] at h; exact h.elim
    | exc c p g1 =>
      rw [ee] at h
      exact fun H1 B1 Γ1 cls dd c1 s1 x => h H1 B1 Γ1 cls dd c1 (st.trans s1) x
    | ok d g1 =>
      rw [ee] at h hL
      have h : Out S σ W Hs Bs Γs ((evEs C es env g1).bind fun ds g => .ok (d :: ds) g) Qd := h
      have hL : ∀ ds g', ((evEs C es env g1).bind fun ds g => R.ok (d :: ds) g) = .ok ds g' → ∀ (k : Nat) (d : D), (o :: os)[k]? = some true → ds[k]? = some d → isLst d = true := hL
      intro H1 B1 Γ1 c1 s1 v rv fv
      have h' : Out S σ W Hs Bs Γs (evEs C es env g1) fun ds g' H' B' Γ' => Qd (d :: ds) g' H' B' Γ' := by
        cases er : evEs C es env g1 with
        | ok ds g2 => rw [er] at h; exact h
        | exc c p g2 => rw [er] at h; exact h
        | no => rw [er] at h; exact h
      have hL' : ∀ ds g', evEs C es env g1 = .ok ds g' → ∀ (k : Nat) (d : D), os[k]? = some true → ds[k]? = some d → isLst d = true := fun ds g' q k x e1 e2 =>
        hL (d :: ds) g' (by rw [q]; rfl) (k + 1) x (by simpa using e1) (by simpa using e2)
      have hf' : ∀ (k : Nat) (e : Ex), os[k]? = some true → es[k]? = some e → isF S.T e = true := fun k x e1 e2 => hf (k + 1) x (by simpa using e1) (by simpa using e2)
      have back1 : ∀ b, H1 b = none → H b = none := fun b q => s1.back q
      cases o with
      | false =>
        refine par_core os es (by simpa using hl) hf' (st.trans s1) (sl.step ce.ok s1) c1 h' (fun ds g' H' B' Γ' vs c' st' s' sl' q ps => ?_) hL'
        exact K (d :: ds) g' H' B' Γ' (v :: vs) c' st' (s1.trans s') sl' q (.val (rv.step c1.ok s') (ps.back back1))
      | true =>
        cases er : evEs C es env g1 with
        | no => rw [er] at h'; exact h'.elim
        | exc c p g2 =>
          have h2 : Out S σ W Hs Bs Γs (evEs C es env g1) fun ds g' H' B' Γ' => False := by
            rw [er] at h' ⊢; exact h'
          exact par_core os es (by simpa using hl) hf' (st.trans s1) (sl.step ce.ok s1) c1 h2 (fun ds g' H' B' Γ' vs c' st' s' sl' q ps => q.elim) hL'
        | ok ds0 g2 =>
          have hd : isLst d = true := hL (d :: ds0) g2 (by rw [er]; rfl) 0 d rfl rfl
          obtain ⟨p, rfl, hp, nb, hk, ow⟩ := fresh_own hd (fv (hf 0 e rfl rfl))
          have sg : Step H B Γ H1 (fun b => B1 b ∨ b = p) Γ1 := s1.grow (fun _ q => .inl q) fun a q => q.elim .inl fun z => .inr (by rw [z]; exact hp)
          have cg : Cells S H1 g1 (fun b => B1 b ∨ b = p) Γ1 := c1.bad (fun _ q => .inl q) fun a q => by
            rcases q with q | q
            · exact c1.ok.kin a q
            · rw [q]; exact hk
          have np := fresh_notin c1.ok nb
          refine par_core os es (by simpa using hl) hf' (st.trans sg) (sl.step ce.ok sg) cg h' (fun ds g' H' B' Γ' vs c' st' s' sl' q ps => ?_) hL'
          refine K (d :: ds) g' H' B' Γ' (.ref p :: vs) c' st' (sg.trans s') sl' q (.own hp (s'.bsub _ (.inr rfl)) (fun z => ?_) (ow.step cg.ok s' np) (fun k e1 e2 => ?_) (ps.back back1))
          · rcases s'.gnew _ z with y | y
            · exact np y
            · exact ow.live y
          · have z := ps.new e1 e2
            exact ow.live z

theorem getS_lt' : ∀ {env : Env} {i : Nat}, getS env i ≠ .u → i < env.length
  | [], _, h => (h rfl).elim
  | _ :: _, 0, _ => Nat.succ_pos _
  | _ :: r, i + 1, h => Nat.succ_lt_succ (getS_lt' (env := r) h)
theorem setPar_lst : ∀ (ts : List (Bool × Nat)) (ds : List D) (env env' : Env), setPar ts ds env = some env' → ∀ (k : Nat) (d : D), (ts.map (·.1))[k]? = some true → ds[k]? = some d → isLst d = true
  | [], ds, env, env', h, k, d, e1, e2 => by simp at e1
  | t :: ts, [], env, env', h, k, d, e1, e2 => by simp at e2
  | (o, i) :: ts, d0 :: ds, env, env', h, k, d, e1, e2 => by
    have h : (if (o && !isLst d0) = true then none else setPar ts ds (setS env i (if o then .o d0 else .p d0))) = some env' := h
    by_cases c : (o && !isLst d0) = true
    · rw [if_pos c] at h; cases h
    · rw [if_neg c] at h
      cases k with
      | zero =>
        simp at e1 e2
        subst e1 e2
        simpa using c
      | succ k => exact setPar_lst ts ds _ env' h k d (by simpa using e1) (by simpa using e2)
theorem setPar_get : ∀ (ts : List (Bool × Nat)) (ds : List D) (env env' : Env), setPar ts ds env = some env' → env'.length = env.length ∧ ∀ j : Nat,
    (∃ (k : Nat) (o : Bool) (d : D), ts[k]? = some (o, j) ∧ ds[k]? = some d ∧ j < env.length ∧ getS env' j = if o then .o d else .p d) ∨ ((j ∉ ts.map (·.2) ∨ env.length ≤ j) ∧ getS env' j = getS env j)
  | [], [], env, env', h => by
    injection h with h
    subst h
    exact ⟨rfl, fun j => .inr ⟨.inl (by simp), rfl⟩⟩
  | [], _ :: _, env, env', h => by cases h
  | _ :: _, [], env, env', h => by cases h
  | (o, i) :: ts, d0 :: ds, env, env', h => by
    have h : (if (o && !isLst d0) = true then none else setPar ts ds (setS env i (if o then .o d0 else .p d0))) = some env' := h
    by_cases c : (o && !isLst d0) = true
    · rw [if_pos c] at h; cases h
    · rw [if_neg c] at h
      obtain ⟨h1, h2⟩ := setPar_get ts ds _ env' h
      rw [setS_len] at h1 h2
      refine ⟨h1, fun j => ?_⟩
      rcases h2 j with ⟨k, o', d, e1, e2, e3, e4⟩ | ⟨e1, e2⟩
      · exact .inl ⟨k + 1, o', d, by simpa using e1, by simpa using e2, e3, e4⟩
      · rw [getS_setS] at e2
        by_cases q : i = j ∧ i < env.length
        · rw [if_pos q] at e2
          exact .inl ⟨0, o, d0, by rw [q.1]; rfl, rfl, by rw [← q.1]; exact q.2, e2⟩
        · rw [if_neg q] at e2
          refine .inr ⟨?_, e2⟩
          by_cases hj : env.length ≤ j
          · exact .inr hj
          · rcases e1 with e1 | e1
            · left
              have : i ≠ j := fun z => q ⟨z, by omega⟩
              simp only [List.map_cons, List.mem_cons, not_or]
              exact ⟨fun z => this z.symm, e1⟩
            · exact .inr e1
theorem law_par {ts : List (Bool × Nat)} {es : List Ex} (hnd : (ts.map (·.2)).Nodup) (hl : ts.length = es.length) (hf : ∀ (k : Nat) (e : Ex), (ts.map (·.1))[k]? = some true → es[k]? = some e → isF S.T e = true) (hz : es.length ≤ 1000)
    (h : tS S H0 B0 Γ0 W fr C (.par ts es) Z σ H) : tParG (ts.map (·.2)) (tAs S H0 W C es) Z σ H := by
  obtain ⟨env, g, B, Γ, ok0, sl, ce, s0, h⟩ := h
  have h : OutS S H0 B0 Γ0 W fr H B Γ (match evEs C es env g with | .ok ds g => (match setPar ts ds env with | some env => SR.nx env g | none => .no) | .exc c p g => .exc c p env g | .no => .no) Z := h
  have h1 := OutS.tos (f := fun ds g => match setPar ts ds env with | some env => SR.nx env g | none => .no) sl ce.ok s0 .refl h
  refine par_core (ts.map (·.1)) es (by simpa using hl) hf .refl sl ce h1 (fun ds g' H' B' Γ' vs c' st' s' sl' q ps => ?_) fun ds g' e k d e1 e2 => ?_
  · obtain ⟨l1, l2⟩ := ps.len
    rw [List.length_map] at l1 l2
    refine ⟨by rw [List.length_map]; exact l1, by rw [l1, hl, sizeLine_eq]; omega, fun σ' H2 hs sm => ?_⟩
    cases ep : setPar ts ds env with
    | none => rw [ep] at q; exact q.elim
    | some env' =>
      rw [ep] at q
      obtain ⟨g1, g2⟩ := setPar_get ts ds env env' ep
      obtain ⟨a1, a2, a3⟩ := hs
      have sl2 := sl'.step c'.ok (Same.step sm)
      -- a slot's part
      have part : ∀ (k : Nat) (o : Bool) (j : Nat), ts[k]? = some (o, j) → j < env.length → ∃ v d, vs[k]? = some v ∧ ds[k]? = some d ∧ σ'[j]? = some (some v) ∧ (if o then ∃ p, v = .ref p ∧ H p = none ∧ B' p ∧ p ∉ Γ' ∧ OwnAt S H' B' Γ' p d else Rep S H' B' Γ' v d) := fun k o j e hj => by
        obtain ⟨v, d, e1, e2, e3⟩ := ps.at_ (k := k) (o := o) (by rw [List.getElem?_map, e]; rfl)
        refine ⟨v, d, e1, e2, ?_, e3⟩
        rw [a2 j v ?_, if_pos (by rw [sl'.len]; exact hj)]
        rw [List.mem_iff_getElem?]
        exact ⟨k, by rw [List.getElem?_zip_eq_some]; exact ⟨by rw [List.getElem?_map, e]; rfl, e1⟩⟩
      refine q σ' H2 B' Γ' ⟨by rw [a1, g1]; exact sl'.len, fun j => ?_, fun j k x ne hj hk e1 e2 => ?_⟩ (c'.same sm) ((s0.trans st').trans (Same.step sm)) ((st'.trans (Same.step sm)).later ce.ok)
      · rcases g2 j with ⟨k, o, d, e1, e2, e3, e4⟩ | ⟨e1, e2⟩
        · obtain ⟨v, d', f1, f2, f3, f4⟩ := part k o j e1 e3
          rw [e2] at f2
          cases f2
          rw [e4, f3]
          cases o with
          | false =>
            simp only [Bool.false_eq_true, if_false] at f4 ⊢
            exact ⟨v, rfl, f4.step c'.ok (Same.step sm)⟩
          | true =>
            simp only [if_true] at f4 ⊢
            obtain ⟨p, rfl, f5, f6, f7, f8⟩ := f4
            exact ⟨p, rfl, f6, f7, s0.back f5, f8.step c'.ok (Same.step sm) f7⟩
        · rw [e2]
          rcases e1 with e1 | e1
          · rw [a3 j e1]; exact sl2.at_ j
          · have : getS env j = .u := by
              cases es : getS env j with
              | u => rfl
              | p d => exact absurd (getS_lt' (by rw [es]; exact fun z => nomatch z)) (by omega)
              | o d => exact absurd (getS_lt' (by rw [es]; exact fun z => nomatch z)) (by omega)
            rw [this]; trivial
      · -- two own things stand apart
        have kind : ∀ m : Nat, isO (getS env' m) → (∃ k : Nat, ts[k]? = some (true, m) ∧ m < env.length) ∨ (isO (getS env m) ∧ (m ∉ ts.map (·.2))) := fun m hm => by
          rcases g2 m with ⟨k, o, d, f1, f2, f3, f4⟩ | ⟨f1, f2⟩
          · cases o with
            | true => exact .inl ⟨k, f1, f3⟩
            | false => rw [f4] at hm; exact hm.elim
          · rw [f2] at hm
            rcases f1 with f1 | f1
            · exact .inr ⟨hm, f1⟩
            · exact absurd (getS_lt hm) (by omega)
        have old : ∀ m : Nat, isO (getS env m) → m ∉ ts.map (·.2) → σ'[m]? = some (some (.ref x)) → H x ≠ none := fun m hm hn e => by
          rw [a3 m hn] at e
          exact own_live (sl.at_ m) hm e
        have new : ∀ (m k : Nat), ts[k]? = some (true, m) → m < env.length → σ'[m]? = some (some (.ref x)) → H x = none ∧ vs[k]? = some (.ref x) := fun m k f1 f2 e => by
          obtain ⟨v, d, q1, q2, q3, q4⟩ := part k true m f1 f2
          rw [e] at q3
          cases q3
          simp only [if_true] at q4
          obtain ⟨p, q5, q6, _⟩ := q4
          cases q5
          exact ⟨q6, q1⟩
        rcases kind j hj with ⟨a, f1, f2⟩ | ⟨f1, f2⟩ <;> rcases kind k hk with ⟨b, f3, f4⟩ | ⟨f3, f4⟩
        · obtain ⟨z1, z2⟩ := new j a f1 f2 e1
          obtain ⟨z3, z4⟩ := new k b f3 f4 e2
          have hab : a ≠ b := fun z => by
            subst z; rw [f1] at f3; cases f3; exact ne rfl
          rcases Nat.lt_or_gt_of_ne hab with hlt | hlt
          · exact ps.apart hlt (by rw [List.getElem?_map, f1]; rfl) (by rw [List.getElem?_map, f3]; rfl) z2 z4
          · exact ps.apart hlt (by rw [List.getElem?_map, f3]; rfl) (by rw [List.getElem?_map, f1]; rfl) z4 z2
        · exact old k f3 f4 e2 (new j a f1 f2 e1).1
        · exact old j f1 f2 e1 (new k b f3 f4 e2).1
        · rw [a3 j f2] at e1
          rw [a3 k f4] at e2
          exact sl.apart j k x ne f1 f3 e1 e2
  · cases ep : setPar ts ds env with
    | none => rw [e] at h; simp only [ep] at h; exact h.elim
    | some env' => exact setPar_lst ts ds env env' ep k d e1 e2
end
end Rz

/-! RzS13 -/
set_option Elab.async false
set_option linter.all false
set_option maxRecDepth 100000
set_option maxHeartbeats 4000000
namespace Rz
open PySem PySem.Spec PyProof.Rows L2

/-! ### the check's tables, the context -/
structure Lnk (S : Inf) (J : Tab) (n : Nat) : Prop where
  T : S.T = J.T
  call : ∀ f x k, J.nam f = some (x, k) → Def S n f ∧ Nm S f ∧ S.nam f = x ∧ (S.ps f).length = k
  glo : ∀ x d, (x, d) ∈ J.glo → ∃ v u, S.mg (sOf x) = some u ∧ RelV v u ∧ ∀ H B Γ, Rep S H B Γ v d
  blt : ∀ x, x ∈ blts → S.mg x = none
  cls : S.cls = J.cls
  exc : ∀ c x, J.cls.lookup c = some x → S.mg x = some (.ref (S.cad c)) ∧ PySem.W.excIn S.K (S.cad c) He.veBase "ValueError.__new__" = true ∧ PySem.W.keepIn S.K (.ref (S.cad c)) = true ∧ PySem.W.subIn S.K (.ref (S.cad c)) (.type "BaseException") = some true ∧ PySem.W.typeIn S.K (.ref (S.cad c)) = some (.type "type")
  exm : ∀ c x d y, J.cls.lookup c = some x → J.cls.lookup d = some y → PySem.W.exmOne S.K (.ref (S.cad c)) (.ref (S.cad d)) = some (exB c d)
def isK (sc : Scope) (x : Str) (k : NameKind) : Bool := decide (sc.names.lookup x = some k)
theorem isK_ok {sc : Scope} {x : Str} {k : NameKind} (h : isK sc x k = true) : sc.names.lookup x = some k := of_decide_eq_true h
def visB (sc : Scope) (x : Str) : Bool := isK sc x .local || isK sc x .cell || isK sc x .free
def nmOk (x : Str) : Bool := !(x == ("__debug__" : Str)) && !(x == ("__classdict__" : Str))
def nmB (N : List Str) (sc : Scope) (i : Nat) (x : Str) : Bool := decide (N[i]? = some x) && visB sc x && nmOk x
def fnB : Option Scope → Str → Bool
  | none, _ => true
  | some s, x => isK s x .cell
def stB (N : List Str) (sc : Scope) (fs : Option Scope) (i : Nat) (x : Str) : Bool := decide (N[i]? = some x) && (isK sc x .local || (isK sc x .cell && fnB fs x))
structure Ctx (S : Inf) (n : Nat) (N : List Str) (sc : Scope) (fs : Option Scope) (X : Cx) (W : WX) : Prop where
  inn : In S X
  eN : X.N = N
  eS : X.env.scope = sc
  calm : X.calm = true
  nd : N.Nodup
  room : Room n X.A
  tk : Takes X W
  kind : sc.kind = .function
  fn : ∀ x, fnB fs x = true → X.fn x = true
/-! ### plain shapes -/
def unst : Expr → Bool
  | .Starred _ _ => false
  | _ => true
theorem star_cons {e : Expr} {es : List Expr} {env : PySem.Env} (h : unst e = true) : starEach (e :: es) env = (false, eval e env) :: starEach es env := by
  cases e <;> first | rfl | cases h
theorem star_any {pos : Pos} {env : PySem.Env} : ∀ {es : List Expr}, es.all unst = true → (backTo pos (starEach es env)).any (·.1) = false
  | [], _ => rfl
  | e :: es, h => by
    rw [List.all_cons, Bool.and_eq_true] at h
    rw [star_cons h.1]
    show (false || (backTo pos (starEach es env)).any (·.1)) = false
    rw [star_any h.2]; rfl
theorem assign_cons {e : Expr} {es : List Expr} {env : PySem.Env} (h : unst e = true) : assignEach (e :: es) env = (false, assign e env) :: assignEach es env := by
  cases e <;> first | rfl | cases h
theorem assign_len {env : PySem.Env} : ∀ {es : List Expr}, es.all unst = true → (assignEach es env).length = es.length
  | [], _ => rfl
  | e :: es, h => by
    rw [List.all_cons, Bool.and_eq_true] at h
    rw [assign_cons h.1, List.length_cons, List.length_cons, assign_len h.2]
theorem assign_nost {env : PySem.Env} : ∀ {es : List Expr}, es.all unst = true → (assignEach es env).findIdx? (·.1) = none
  | [], _ => rfl
  | e :: es, h => by
    rw [List.all_cons, Bool.and_eq_true] at h
    rw [assign_cons h.1, List.findIdx?_cons]
    simp [assign_nost h.2]
def simpT : Expr → Bool
  | .UnaryOp .Not _ _ => false
  | .BoolOp _ _ _ => false
  | .IfExp _ _ _ _ => false
  | .Compare _ _ _ _ => false
  | _ => true
theorem simpT_ok {e : Expr} {env : PySem.Env} (h : simpT e = true) : ∀ whole, isTrue e env whole = (do let v ← whole; standAt e.pos; holding [v] (truthy v)) := by
  intro whole
  cases e with
  | UnaryOp op x p => cases op <;> first | rfl | cases h
  | _ => first | rfl | cases h
def noSl : Expr → Bool
  | .Slice _ _ _ _ => false
  | _ => true
theorem noSl_ok {e : Expr} (h : noSl e = true) : PlainIx e := by
  intro o i
  cases e <;> first | rfl | cases h
def noSet : Expr → Bool
  | .Set _ _ _ => false
  | _ => true
theorem noSet_ok {e : Expr} {env : PySem.Env} (h : noSet e = true) : ∀ x, foldedSetIterable e env x = pure x := by
  intro x
  cases e <;> first | rfl | cases h
theorem noSet_mark {op : CmpOp} {e : Expr} (h : noSet e = true) : behindInMarks op e = false := by
  cases e <;> first | rfl | cases h
/-! ### views -/
def vName : Expr → Option Str
  | .Name x _ => some x
  | _ => none
theorem vName_ok {e : Expr} {x : Str} (h : vName e = some x) : ∃ p, e = .Name x p := by
  cases e with
  | Name y p => injection h with h; subst h; exact ⟨p, rfl⟩
  | _ => cases h
def vTup : Expr → Option (List Expr)
  | .Tuple es _ _ => some es
  | _ => none
theorem vTup_ok {e : Expr} {x : List Expr} (h : vTup e = some x) : ∃ k p, e = .Tuple x k p := by
  cases e with
  | Tuple y k p => injection h with h; subst h; exact ⟨k, p, rfl⟩
  | _ => cases h
def vLst : Expr → Option (List Expr)
  | .List es _ => some es
  | _ => none
theorem vLst_ok {e : Expr} {x : List Expr} (h : vLst e = some x) : ∃ p, e = .List x p := by
  cases e with
  | List y p => injection h with h; subst h; exact ⟨p, rfl⟩
  | _ => cases h
def vBin : Expr → Option (Expr × Operator × Expr)
  | .BinOp a op b _ => some (a, op, b)
  | _ => none
theorem vBin_ok {e : Expr} {a b : Expr} {op : Operator} (h : vBin e = some (a, op, b)) : ∃ p, e = .BinOp a op b p := by
  cases e with
  | BinOp y o z p => injection h with h; injection h with h1 h2; injection h2 with h2 h3; subst h1 h2 h3; exact ⟨p, rfl⟩
  | _ => cases h
def vCmp : Expr → Option (Expr × List CmpOp × List Expr)
  | .Compare a ops bs _ => some (a, ops, bs)
  | _ => none
theorem vCmp_ok {e : Expr} {a : Expr} {bs : List Expr} {ops : List CmpOp} (h : vCmp e = some (a, ops, bs)) : ∃ p, e = .Compare a ops bs p := by
  cases e with
  | Compare y o z p => injection h with h; injection h with h1 h2; injection h2 with h2 h3; subst h1 h2 h3; exact ⟨p, rfl⟩
  | _ => cases h
def vUn : Expr → Option (UnaryOp × Expr)
  | .UnaryOp op a _ => some (op, a)
  | _ => none
theorem vUn_ok {e a : Expr} {op : UnaryOp} (h : vUn e = some (op, a)) : ∃ p, e = .UnaryOp op a p := by
  cases e with
  | UnaryOp o y p => injection h with h; injection h with h1 h2; subst h1 h2; exact ⟨p, rfl⟩
  | _ => cases h
def vBool : Expr → Option (BoolOp × List Expr × Pos)
  | .BoolOp op es p => some (op, es, p)
  | _ => none
theorem vBool_ok {e : Expr} {es : List Expr} {op : BoolOp} {p : Pos} (h : vBool e = some (op, es, p)) : e = .BoolOp op es p := by
  cases e with
  | BoolOp o y q => injection h with h; injection h with h1 h2; injection h2 with h2 h3; subst h1 h2 h3; rfl
  | _ => cases h
def vIf : Expr → Option (Expr × Expr × Expr)
  | .IfExp c a b _ => some (c, a, b)
  | _ => none
theorem vIf_ok {e c a b : Expr} (h : vIf e = some (c, a, b)) : ∃ p, e = .IfExp c a b p := by
  cases e with
  | IfExp y o z p => injection h with h; injection h with h1 h2; injection h2 with h2 h3; subst h1 h2 h3; exact ⟨p, rfl⟩
  | _ => cases h
def vCall : Expr → Option (Str × List Expr)
  | .Call (.Name x _) es [] _ => some (x, es)
  | _ => none
theorem vCall_ok {e : Expr} {x : Str} {es : List Expr} (h : vCall e = some (x, es)) : ∃ p q, e = .Call (.Name x p) es [] q := by
  unfold vCall at h
  split at h
  · injection h with h; injection h with h1 h2; subst h1 h2; exact ⟨_, _, rfl⟩
  · cases h
def vSub : Expr → Option (Expr × Expr)
  | .Subscript a b _ => some (a, b)
  | _ => none
theorem vSub_ok {e a b : Expr} (h : vSub e = some (a, b)) : ∃ p, e = .Subscript a b p := by
  cases e with
  | Subscript y o p => injection h with h; injection h with h1 h2; subst h1 h2; exact ⟨p, rfl⟩
  | _ => cases h
def vSlice : Expr → Option (Option Expr × Option Expr)
  | .Slice a b none _ => some (a, b)
  | _ => none
theorem vSlice_ok {e : Expr} {a b : Option Expr} (h : vSlice e = some (a, b)) : ∃ p, e = .Slice a b none p := by
  unfold vSlice at h
  split at h
  · injection h with h; injection h with h1 h2; subst h1 h2; exact ⟨_, rfl⟩
  · cases h
def vComp : Expr → Option (Expr × Expr × Expr × List Expr × Scope × Pos)
  | .ListComp elt [⟨tg, iter, ifs, 0⟩] scope p => some (elt, tg, iter, ifs, scope, p)
  | _ => none
theorem vComp_ok {e elt tg iter : Expr} {ifs : List Expr} {scope : Scope} {p : Pos} (h : vComp e = some (elt, tg, iter, ifs, scope, p)) : e = .ListComp elt [⟨tg, iter, ifs, 0⟩] scope p := by
  unfold vComp at h
  split at h
  · injection h with h; injection h with h1 h; injection h with h2 h; injection h with h3 h; injection h with h4 h; injection h with h5 h6
    subst h1 h2 h3 h4 h5 h6; rfl
  · cases h
/-! ### operations -/
def binOf : Op → Option Operator
  | .add => some .Add
  | .sub => some .Sub
  | .mul => some .Mult
  | .fdiv => some .FloorDiv
  | .mod => some .Mod
  | .pow => some .Pow
  | _ => none
theorem bin_ok {S : Inf} {X : Cx} {n : Nat} (i : In S X) (hr : Room n X.A) {o : Op} {p : Operator} (h : binOf o = some p) : ∃ r, OpR X (binaryOp p) r ∧ RO S r (op2 o) := by
  cases o with
  | add => cases h; exact ⟨_, op_addR, by rw [i.K]; exact ro_add⟩
  | sub => cases h; exact ⟨_, op_subR, ro_sub⟩
  | mul => cases h; exact ⟨_, op_mulR, by rw [i.K]; exact ro_mul⟩
  | fdiv => cases h; exact ⟨_, op_fdivX, ro_fdiv⟩
  | mod => cases h; exact ⟨_, op_modN, ro_mod⟩
  | pow => cases h; exact ⟨_, op_pow, ro_pow⟩
  | _ => cases h
/-! ### built-ins by one name -/
def biNm : Bi → Option Str
  | .len => some "len"
  | .int => some "int"
  | .bool => some "bool"
  | .abs => some "abs"
  | .min2 => some "min"
  | .min3 => some "min"
  | .max2 => some "max"
  | .sum => some "sum"
  | .tuple => some "tuple"
  | .list => some "list"
  | .sorted => some "sorted"
  | .any => some "any"
  | .all => some "all"
  | _ => none
theorem boot_abs' : bootBuiltins "abs" = some (.builtin "abs") := by decide +kernel
theorem boot_any' : bootBuiltins "any" = some (.builtin "any") := by decide +kernel
theorem boot_all' : bootBuiltins "all" = some (.builtin "all") := by decide +kernel
theorem boot_enum' : bootBuiltins "enumerate" = some (.type "enumerate") := by decide +kernel
section
variable {S : Inf} {H0 : Hp} {W : WX} {X : Cx} {C : Nat → List D → Gs → R D}
theorem biB {id : String} {r : List V → Hp → VK → Prop} {b : Bi} {x : Str} {e : Ex} {es : List Ex} {pe : Expr} {pes : List Expr} {p pos : Pos} (hc : CallR X (.builtin id) r) (hr : RB S r b) (hg : Gl X x) (hm : X.mg x = none) (hv : bootBuiltins x = some (.builtin id)) (ha : PA X (pe :: pes) (tDs S H0 W C (e :: es)))
    (hs : (pe :: pes).all unst = true) (hn : x ≠ "__name__") (hdb : (x == ("__debug__" : Str)) = false) : PE X (.Call (.Name x p) (pe :: pes) [] pos) (tD S H0 W C (.bi b (e :: es))) := by
  rw [List.all_cons, Bool.and_eq_true] at hs
  exact eok_bi (pe_callB hc hg hm hv ha hn hdb (star_cons hs.1) (star_any hs.2)) hr
theorem biT {id : String} {r : List V → Hp → VK → Prop} {b : Bi} {x : Str} {e : Ex} {es : List Ex} {pe : Expr} {pes : List Expr} {p pos : Pos} (hc : CallR X (.type id) r) (hr : RB S r b) (hg : Gl X x) (hm : X.mg x = none) (hv : bootBuiltins x = some (.type id)) (ha : PA X (pe :: pes) (tDs S H0 W C (e :: es)))
    (hs : (pe :: pes).all unst = true) (hn : x ≠ "__name__") (hdb : (x == ("__debug__" : Str)) = false) : PE X (.Call (.Name x p) (pe :: pes) [] pos) (tD S H0 W C (.bi b (e :: es))) := by
  rw [List.all_cons, Bool.and_eq_true] at hs
  exact eok_bi (pe_callTy hc hg hm hv ha hn hdb (star_cons hs.1) (star_any hs.2)) hr
theorem bi_ok (hK : X.K = S.K) (hcalm : X.calm = true) {b : Bi} {x : Str} {e : Ex} {es : List Ex} {pe : Expr} {pes : List Expr} {p pos : Pos} (h : biNm b = some x) (hg : Gl X x) (hm : X.mg x = none) (ha : PA X (pe :: pes) (tDs S H0 W C (e :: es)))
    (hs : (pe :: pes).all unst = true) : PE X (.Call (.Name x p) (pe :: pes) [] pos) (tD S H0 W C (.bi b (e :: es))) := by
  cases b with
  | len => cases h; exact biB cr_lenR (by rw [hK]; exact rb_len) hg hm PySem.boot_len ha hs (by decide) (by decide)
  | int => cases h; exact biT call_int1 rb_int hg hm PyProof.Rows.boot_int ha hs (by decide) (by decide)
  | bool => cases h; exact biT call_bool1 rb_bool hg hm PyProof.Rows.boot_bool ha hs (by decide) (by decide)
  | abs => cases h; exact biB call_abs rb_abs hg hm boot_abs' ha hs (by decide) (by decide)
  | min2 => cases h; exact biB (call_min2 hcalm) rb_min2 hg hm PyProof.Rows.boot_min ha hs (by decide) (by decide)
  | min3 => cases h; exact biB (call_min3Nu hcalm) rb_min3 hg hm PyProof.Rows.boot_min ha hs (by decide) (by decide)
  | max2 => cases h; exact biB (call_max2 hcalm) rb_max2 hg hm PyProof.Rows.boot_max ha hs (by decide) (by decide)
  | sum => cases h; exact biB (cr_sum hcalm) (by rw [hK]; exact rb_sum) hg hm PyProof.Rows.boot_sum ha hs (by decide) (by decide)
  | tuple => cases h; exact biT call_tuple_of (by rw [hK]; exact rb_tuple) hg hm PyProof.Rows.boot_tuple ha hs (by decide) (by decide)
  | list => cases h; exact biT call_list_of (by rw [hK]; exact rb_list) hg hm PyProof.Rows.boot_list ha hs (by decide) (by decide)
  | sorted => cases h; exact biB cr_sorted (by rw [hK]; exact rb_sorted) hg hm PyProof.Rows.boot_sorted ha hs (by decide) (by decide)
  | any => cases h; exact biB (cr_any hcalm) (by rw [hK]; exact rb_any) hg hm boot_any' ha hs (by decide) (by decide)
  | all => cases h; exact biB (cr_all hcalm) (by rw [hK]; exact rb_all) hg hm boot_all' ha hs (by decide) (by decide)
  | _ => cases h
/-! ### isinstance -/
def tyNm : Bi → Option (Str × String)
  | .isint => some ("int", "int")
  | .isbool => some ("bool", "bool")
  | .isstr => some ("str", "str")
  | .istup => some ("tuple", "tuple")
  | .islst => some ("list", "list")
  | _ => none
def dTy : D → Option String
  | .non => some "NoneType"
  | .bl _ => some "bool"
  | .int _ => some "int"
  | .str _ => some "str"
  | .tup _ => some "tuple"
  | .lst _ => some "list"
  | .dic _ _ => some "dict"
  | _ => none
theorem isi_tab {b : Bi} {x : Str} {T t : String} {d : D} {r : D} (h : tyNm b = some (x, T)) (ht : dTy d = some t) (e : bi b [d] = some r) : ∃ q, r = .bl q ∧ kitB t T = some q := by
  cases b <;> cases h <;> cases d <;> cases ht <;> (injection e with e; subst e; refine ⟨_, rfl, ?_⟩; decide +kernel)
theorem rep_ty {H : Hp} {B : Bad} {Γ : List Addr} {v : V} {d : D} {t : String} (r : Rep S H B Γ v d) (ht : dTy d = some t) : TyX S.K H v (.type t) := by
  cases r <;> cases ht
  · exact .base .non
  · exact .base (.bl _)
  · exact .base (.int _)
  · exact .base (.str _)
  · rename_i a vs ds h q
    rcases h with (h | ⟨o, h⟩) | ⟨o, its, n, h, hc, _⟩
    · exact .base (.tup h)
    · exact .fTuple h
    · exact .kTuple h hc
  · rename_i h _ _
    exact .base (.lst h)
  · rename_i h _ _ _
    exact .base (.dK h)
theorem isi_ty {b : Bi} {x : Str} {T : String} {d r : D} (h : tyNm b = some (x, T)) (e : bi b [d] = some r) : ∃ t, dTy d = some t := by
  cases b <;> (try cases h) <;> cases d <;> first | exact ⟨_, rfl⟩ | cases e
theorem ty_boot {b : Bi} {x : Str} {T : String} (h : tyNm b = some (x, T)) : bootBuiltins x = some (.type T) ∧ x ≠ "__name__" ∧ (x == ("__debug__" : Str)) = false := by
  cases b <;> cases h <;> first
    | exact ⟨PyProof.Rows.boot_int, by decide, by decide⟩
    | exact ⟨PyProof.Rows.boot_bool, by decide, by decide⟩
    | exact ⟨PyProof.Rows.boot_str, by decide, by decide⟩
    | exact ⟨PyProof.Rows.boot_tuple, by decide, by decide⟩
    | exact ⟨PyProof.Rows.boot_list, by decide, by decide⟩
theorem eok_isi (hK : X.K = S.K) {b : Bi} {x : Str} {T : String} {e : Ex} {pe : Expr} {p p2 pos : Pos} (h : tyNm b = some (x, T)) (hg : Gl X "isinstance") (hm : X.mg "isinstance" = none) (hg2 : Gl X x) (hm2 : X.mg x = none) (ha : PE X pe (tD S H0 W C e)) (hs : unst pe = true) :
    PE X (.Call (.Name "isinstance" p) [pe, .Name x p2] [] pos) (tD S H0 W C (.bi b [e])) := by
  obtain ⟨hv, hn, hd⟩ := ty_boot h
  have h2 : PE X (.Name x p2) (tC (.ty T)) := pe_bltn hg2 hm2 hv rfl hn hd
  refine (pe_callB call_isi hg hm PyProof.Rows.boot_isinstance (pa_cons ha (pa_cons h2 pa_nil) (star_cons hs)) (by decide) (by decide) (star_cons hs) rfl).imp fun σ H Q ⟨env, g, B, Γ, sl, ce, hh⟩ => ?_
  have hh : Out S σ W H B Γ (((evE C e env g).bind fun d g => .ok [d] g).bind fun ds g => .of (bi b ds) g) _ := hh
  have hh : Out S σ W H B Γ ((evE C e env g).bind fun d g => .of (bi b [d]) g) (fun d g' H' B' Γ' => ∀ v, Rep S H' B' Γ' v d → (isF S.T (.bi b [e]) = true → FreshAt S H H' B' Γ' v d) → Q v H') := by
    cases ee : evE C e env g with
    | ok d g1 => rw [ee] at hh; exact hh
    | exc c p g1 => rw [ee] at hh; exact hh
    | no => rw [ee] at hh; exact hh
  refine tD_bind sl ce hh fun d1 g1 H1 B1 Γ1 v1 sl1 ce1 s1 r1 _ h1 => ?_
  obtain ⟨r, er, h3⟩ := h1.of
  obtain ⟨t, ht⟩ := isi_ty h er
  obtain ⟨q, eq, kq⟩ := isi_tab h ht er
  subst eq
  refine ⟨v1, .ty T, .type t, .type T, q, rfl, .ty T, by rw [hK]; exact rep_ty r1 ht, kit_ty kq, ?_⟩
  exact h3 H1 B1 Γ1 ce1 .refl _ (.bl q) fun z => trivial
/-! ### list(range(n)) -/
theorem eok_lrange (hcalm : X.calm = true) {e : Ex} {pe : Expr} {p p2 pos pos2 : Pos} (hg : Gl X "list") (hm : X.mg "list" = none) (hg2 : Gl X "range") (hm2 : X.mg "range" = none) (ha : PE X pe (tD S H0 W C e)) (hs : unst pe = true) :
    PE X (.Call (.Name "list" p) [.Call (.Name "range" p2) [pe] [] pos2] [] pos) (tD S H0 W C (.bi .lrange [e])) := by
  refine (pe_listRg hcalm hg hm (prg_1 hg2 hm2 ha (star_cons hs)) rfl).imp fun σ H Q ⟨env, g, B, Γ, sl, ce, hh⟩ => ?_
  have hh : Out S σ W H B Γ (((evE C e env g).bind fun d g => .ok [d] g).bind fun ds g => .of (bi .lrange ds) g) _ := hh
  have hh : Out S σ W H B Γ ((evE C e env g).bind fun d g => .of (bi .lrange [d]) g) (fun d g' H' B' Γ' => ∀ v, Rep S H' B' Γ' v d → (isF S.T (.bi .lrange [e]) = true → FreshAt S H H' B' Γ' v d) → Q v H') := by
    cases ee : evE C e env g with
    | ok d g1 => rw [ee] at hh; exact hh
    | exc c p g1 => rw [ee] at hh; exact hh
    | no => rw [ee] at hh; exact hh
  refine tD_bind sl ce hh fun d1 g1 H1 B1 Γ1 v1 sl1 ce1 s1 r1 _ h1 => ?_
  obtain ⟨r, er, h3⟩ := h1.of
  cases r1 with
  | int n =>
    obtain ⟨hl, he⟩ := ite_some er
    subst he
    rw [Bool.and_eq_true] at hl
    have h0 : 0 ≤ n := of_decide_eq_true hl.1
    have hl : n.toNat ≤ 1000000 := Nat.le_of_ble_eq_true hl.2
    refine ⟨n, rfl, ⟨by omega, by omega, by omega, by omega, ?_⟩, fun q hq => ?_⟩
    · rw [Int.sub_zero]; omega
    · have rr : Reps S H1 B1 Γ1 (rgV 0 n) (rangeI 0 n.toNat) := by
        unfold rgV rangeI
        rw [Int.sub_zero]
        have : ∀ l : List Nat, Reps S H1 B1 Γ1 (l.map fun (i : Nat) => V.int (0 + (i : Int))) (l.map fun (i : Nat) => D.int (0 + (i : Int))) := fun l => by
          induction l with
          | nil => exact .nil
          | cons a l ih => exact .cons (.int _) ih
        exact this _
      obtain ⟨x1, x2⟩ := new_lst ce1.ok hq rr
      exact h3 _ B1 Γ1 (ce1.same (same_laid hq)) (Same.step (same_laid hq)) _ x1 fun _ => s1.seqF x2
  | _ => cases er
end
end Rz

/-! RzS14 -/
set_option Elab.async false
set_option linter.all false
set_option maxRecDepth 100000
set_option maxHeartbeats 4000000
namespace Rz
open PySem PySem.Spec PyProof.Rows L2

section
variable {S : Inf} {H0 : Hp} {W : WX} {X : Cx} {C : Nat → List D → Gs → R D}
/-! ### chains of two -/
def chR (C : Nat → List D → Gs → R D) (p : Op) (c : Ex) (env : Env) (y : D) (g : Gs) : Option D → R D
  | some (.bl true) => (evE C c env g).bind fun z g => .of (op2 p y z) g
  | some (.bl false) => .ok (.bl false) g
  | _ => .no
theorem chain_law {o p : Op} {r r' : R2} {a b c : Ex} {σ : L2.St} {H : Hp} {Q : VK} (h1 : RO S r (op2 o)) (h2 : RO S r' (op2 p)) (h : tD S H0 W C (.chain o p a b c) σ H Q) : tChain r r' (tD S H0 W C a) (tD S H0 W C b) (tD S H0 W C c) σ H Q := by
  obtain ⟨env, g, B, Γ, sl, ce, h⟩ := h
  have h : Out S σ W H B Γ ((evE C a env g).bind fun x g => (evE C b env g).bind fun y g => chR C p c env y g (op2 o x y)) _ := h
  refine tD_bind sl ce h fun d1 g1 H1 B1 Γ1 v1 sl1 ce1 s1 r1 _ h => ?_
  refine tD_bind sl1 ce1 h fun d2 g2 H2 B2 Γ2 v2 sl2 ce2 s2 r2 _ h => ?_
  have r1' := r1.step ce1.ok s2
  cases e : op2 o d1 d2 with
  | none => rw [e] at h; exact h.elim
  | some d =>
    refine h1 H2 B2 Γ2 v1 v2 d1 d2 d _ ce2.ok r1' r2 e fun v H3 s3 r3 _ => ?_
    rw [e] at h
    cases d with
    | bl k =>
      refine ⟨k, r3.blv, ?_⟩
      cases k with
      | false =>
        simp only [Bool.false_eq_true, if_false]
        exact h H3 B2 Γ2 (ce2.same s3) (Same.step s3) _ (.bl false) fun _ => trivial
      | true =>
        simp only [if_true]
        have h : Out S σ W H2 B2 Γ2 ((evE C c env g2).bind fun z g => .of (op2 p d2 z) g) _ := h
        have h : Out S σ W H3 B2 Γ2 ((evE C c env g2).bind fun z g => .of (op2 p d2 z) g) (fun d g' H' B' Γ' => ∀ v, Rep S H' B' Γ' v d → (isF S.T (.chain o p a b c) = true → FreshAt S H H' B' Γ' v d) → Q v H') := by
          cases ee : (evE C c env g2).bind fun z g => R.of (op2 p d2 z) g with
          | ok d g' => rw [ee] at h; exact fun H' B' Γ' c s => h H' B' Γ' c ((Same.step s3).trans s)
          | exc x q g' => rw [ee] at h; exact fun H' B' Γ' cls dd c s => h H' B' Γ' cls dd c ((Same.step s3).trans s)
          | no => rw [ee] at h; exact h
        refine tD_bind (sl2.step ce2.ok (Same.step s3)) (ce2.same s3) h fun d3 g3 H4 B4 Γ4 v3 sl4 ce4 s4 r4 _ h => ?_
        obtain ⟨d, e, h⟩ := h.of
        refine h2 H4 B4 Γ4 v2 v3 d2 d3 d Q ce4.ok ((r2.step ce2.ok (Same.step s3)).step (ce2.same s3).ok s4) r4 e fun v H5 s5 r5 f => ?_
        exact h H5 B4 Γ4 (ce4.same s5) (Same.step s5) v r5 fun z => by cases z
    | _ => exact h.elim
theorem tD_tDT {e : Ex} {σ : L2.St} {H : Hp} {Q : Bool → Hp → Prop} (h : tDT S H0 W C e σ H Q) : tD S H0 W C e σ H fun x H' => ∃ k, x = .bl k ∧ Q k H' := by
  obtain ⟨env, g, B, Γ, sl, ce, h⟩ := h
  refine ⟨env, g, B, Γ, sl, ce, h.imp fun d g' H' B' Γ' c s ⟨b, ed, q⟩ v r _ => ?_⟩
  subst ed
  exact ⟨b, r.blv, q⟩
theorem eok_chain {o p : Op} {po pp : CmpOp} {r r' : R2} {a b c : Ex} {pa pb pc : Expr} {pos : Pos} (ho : OpR X (compareOp po) r) (h1 : RO S r (op2 o)) (hp : OpR X (compareOp pp) r') (h2 : RO S r' (op2 p))
    (ha : PE X pa (tD S H0 W C a)) (hb : PE X pb (tD S H0 W C b)) (hc : PE X pc (tD S H0 W C c)) (hm : lastMarks [po, pp] [pb, pc] = false) : PE X (.Compare pa [po, pp] [pb, pc] pos) (tD S H0 W C (.chain o p a b c)) :=
  (pe_chain ho hp ha hb hc hm).imp fun σ H Q h => chain_law h1 h2 h
theorem tok_chain {o p : Op} {po pp : CmpOp} {r r' : R2} {a b c : Ex} {pa pb pc : Expr} {pos : Pos} (ho : OpR X (compareOp po) r) (h1 : RO S r (op2 o)) (hp : OpR X (compareOp pp) r') (h2 : RO S r' (op2 p))
    (ha : PE X pa (tD S H0 W C a)) (hb : PE X pb (tD S H0 W C b)) (hc : PE X pc (tD S H0 W C c)) (hm : lastMarks [po, pp] [pb, pc] = false) : PT X (.Compare pa [po, pp] [pb, pc] pos) (tDT S H0 W C (.chain o p a b c)) :=
  (pt_chain ho hp ha hb hc hm).imp fun σ H Q h => chain_law h1 h2 (tD_tDT h)
/-! ### a comprehension -/
theorem eok_comp (hK : X.K = S.K) (hcalm : X.calm = true) (hN : X.N.Nodup) {e : Ex} {t : Tg} {k : ItK} {es c : List Ex} {elt tg iter : Expr} {ifs : List Expr} {scope : Scope} {own : List (Str × Nat)} {pos : Pos} (hi : PI X tg iter (tIt S H0 W C k es)) (ok : BlkOk X.N X.env.scope scope own) (ho : own.map (·.2) = t.ix)
    (hg : ∀ (s : Shared) (H : Hp) (Cl : Addr) (cl : List (Str × Addr)) (fp : List Addr), PG (X.blk s H scope (compEnvC scope cl Cl X.env) fp) tg (gOf S.K t))
    (ht : ∀ (s : Shared) (H : Hp) (Cl : Addr) (cl : List (Str × Addr)) (fp : List Addr), PTs (X.blk s H scope (compEnvC scope cl Cl X.env) fp) ifs (tCd S H0 WF0 C c))
    (he : ∀ (s : Shared) (H : Hp) (Cl : Addr) (cl : List (Str × Addr)) (fp : List Addr), PE (X.blk s H scope (compEnvC scope cl Cl X.env) fp) elt (tD S H0 WF0 C e)) (hs : noSet iter = true) :
    PE X (.ListComp elt [⟨tg, iter, ifs, 0⟩] scope pos) (tD S H0 W C (.comp e t k es c)) :=
  (pe_lc hcalm hN hi ok hg ht he (noSet_ok hs)).imp fun σ H Q h => by rw [ho]; exact lc_law h
end

/-! ### the check of expressions -/
def litB : D → Expr → Bool
  | .non, .Constant .none _ _ => true
  | .bl b, .Constant (.bool c) _ _ => b == c
  | .int i, .Constant (.int j) _ _ => decide (i = j)
  | .str s, .Constant (.str x) _ _ => decide (sOf s = x)
  | _, _ => false
theorem litB_ok {S : Inf} {X : Cx} {d : D} {e : Expr} (h : litB d e = true) : ∃ v, PE X e (tC v) ∧ ∀ H B Γ, Rep S H B Γ v d := by
  unfold litB at h
  split at h
  · exact ⟨_, pe_non, fun _ _ _ => .non⟩
  · rename_i b c _ _
    have : b = c := by simpa using h
    subst this
    exact ⟨_, pe_bl, fun _ _ _ => .bl b⟩
  · rename_i i j _ _
    have : i = j := of_decide_eq_true h
    subst this
    exact ⟨_, pe_int, fun _ _ _ => .int i⟩
  · rename_i s x _ _
    have : sOf s = x := of_decide_eq_true h
    subst this
    exact ⟨_, pe_str, fun _ _ _ => .str s⟩
  · cases h
mutual
def D.same : D → D → Bool
  | .non, .non => true
  | .bl a, .bl b => a == b
  | .int i, .int j => decide (i = j)
  | .str x, .str y => decide (x = y)
  | .tup xs, .tup ys => D.sames xs ys
  | _, _ => false
def D.sames : List D → List D → Bool
  | [], [] => true
  | x :: xs, y :: ys => D.same x y && D.sames xs ys
  | _, _ => false
end
mutual
theorem D.same_ok : ∀ {a b : D}, D.same a b = true → a = b
  | .non, b, h => by cases b <;> first | rfl | cases h
  | .bl x, b, h => by cases b <;> first | (have h : (x == _) = true := h; simp at h; rw [h]) | cases h
  | .int x, b, h => by cases b <;> first | (have h := of_decide_eq_true h; rw [h]) | cases h
  | .str x, b, h => by cases b <;> first | (have h := of_decide_eq_true h; rw [h]) | cases h
  | .tup x, b, h => by cases b <;> first | (have h := D.sames_ok h; rw [h]) | cases h
  | .lst x, b, h => by cases b <;> cases h
  | .dic x y, b, h => by cases b <;> cases h
  | .fn x, b, h => by cases b <;> cases h
  | .mref x, b, h => by cases b <;> cases h
  | .scr x, b, h => by cases b <;> cases h
theorem D.sames_ok : ∀ {a b : List D}, D.sames a b = true → a = b
  | [], [], _ => rfl
  | [], _ :: _, h => by cases h
  | _ :: _, [], h => by cases h
  | x :: xs, y :: ys, h => by
    have h : (D.same x y && D.sames xs ys) = true := h
    rw [Bool.and_eq_true] at h
    rw [D.same_ok h.1, D.sames_ok h.2]
end
def gloIn (l : List (List Nat × D)) (x : List Nat) (d : D) : Bool := l.any fun p => decide (p.1 = x) && D.same p.2 d
theorem gloIn_ok {l : List (List Nat × D)} {x : List Nat} {d : D} (h : gloIn l x d = true) : (x, d) ∈ l := by
  unfold gloIn at h
  rw [List.any_eq_true] at h
  obtain ⟨p, hp, h⟩ := h
  rw [Bool.and_eq_true] at h
  have h1 := of_decide_eq_true h.1
  have h2 := D.same_ok h.2
  obtain ⟨a, b⟩ := p
  simp only at h1 h2
  subst h1 h2
  exact hp
/-- a list of parts against its texts -/
def chkL (f : Ex → Expr → Bool) : List Ex → List Expr → Bool
  | [], [] => true
  | e :: es, p :: ps => unst p && f e p && chkL f es ps
  | _, _ => false
theorem chkL_st {f : Ex → Expr → Bool} : ∀ {es : List Ex} {ps : List Expr}, chkL f es ps = true → ps.all unst = true ∧ es.length = ps.length
  | [], [], _ => ⟨rfl, rfl⟩
  | [], _ :: _, h => by cases h
  | _ :: _, [], h => by cases h
  | e :: es, p :: ps, h => by
    have h : (unst p && f e p && chkL f es ps) = true := h
    rw [Bool.and_eq_true, Bool.and_eq_true] at h
    obtain ⟨h1, h2⟩ := chkL_st h.2
    exact ⟨by rw [List.all_cons, h.1.1, h1]; rfl, by rw [List.length_cons, List.length_cons, h2]⟩
/-! targets -/
mutual
def chkTg (N : List Str) (sc : Scope) (fs : Option Scope) : Tg → Expr → Bool
  | .nm i, p => match vName p with
    | some x => stB N sc fs i x
    | none => false
  | .tp ts, p => match vTup p with
    | some ps => chkTgs N sc fs ts ps
    | none => false
def chkTgs (N : List Str) (sc : Scope) (fs : Option Scope) : List Tg → List Expr → Bool
  | [], [] => true
  | t :: ts, p :: ps => unst p && chkTg N sc fs t p && chkTgs N sc fs ts ps
  | _, _ => false
end
def isTp : Expr → Bool
  | .Tuple _ _ _ => true
  | _ => false
/-- what is gone over -/
def chkIt (f : Ex → Expr → Bool) (sc : Scope) (tg : Expr) : ItK → List Ex → Expr → Bool
  | .seq, [e], p => f e p
  | .rng, es, p => match vCall p with
    | some (x, [a]) => decide (x = ("range" : Str)) && isK sc "range" .globalImplicit && chkL f es [a]
    | _ => false
  | .rng2, es, p => match vCall p with
    | some (x, [a, b]) => decide (x = ("range" : Str)) && isK sc "range" .globalImplicit && chkL f es [a, b]
    | _ => false
  | .zip, es, p => match vCall p with
    | some (x, [a, b]) => decide (x = ("zip" : Str)) && isK sc "zip" .globalImplicit && chkL f es [a, b] && isTp tg
    | _ => false
  | .enum, es, p => match vCall p with
    | some (x, [a]) => decide (x = ("enumerate" : Str)) && isK sc "enumerate" .globalImplicit && chkL f es [a] && isTp tg
    | _ => false
  | _, _, _ => false
def blkB (N : List Str) (sc scope : Scope) (ix : List Nat) : Bool :=
  decide (scope.kind = .function) && (scope.names.all fun y => decide (scope.names.lookup y.1 = some y.2)) && (ix.all fun i => (N[i]?).isSome) &&
  (scope.names.all fun y => !(decide (y.2 = .free)) || (isK sc y.1 .cell || isK sc y.1 .free)) &&
  (scope.names.all fun y => !(decide (y.2 = .local) || decide (y.2 = .cell)) || ((ix.any fun i => decide (N[i]? = some y.1)) || !(N.contains y.1)))
def ownOf (N : List Str) (ix : List Nat) : List (Str × Nat) := ix.map fun i => ((N[i]?).getD "", i)
theorem ownOf_ix (N : List Str) (ix : List Nat) : (ownOf N ix).map (·.2) = ix := by
  unfold ownOf
  rw [List.map_map]
  exact List.map_id' ix
theorem blkB_ok {N : List Str} {sc scope : Scope} {ix : List Nat} (h : blkB N sc scope ix = true) : BlkOk N sc scope (ownOf N ix) := by
  unfold blkB at h
  simp only [Bool.and_eq_true, List.all_eq_true] at h
  obtain ⟨⟨⟨⟨h1, h2⟩, h3⟩, h4⟩, h5⟩ := h
  refine ⟨of_decide_eq_true h1, fun y hy => of_decide_eq_true (h2 y hy), fun p hp => ?_, fun y hy e => ?_, fun y hy e => ?_⟩
  · obtain ⟨i, hi, rfl⟩ := List.mem_map.mp hp
    have := h3 i hi
    show N[i]? = some ((N[i]?).getD "")
    cases q : N[i]? with
    | none => rw [q] at this; cases this
    | some x => rfl
  · have := h4 y hy
    rw [e] at this
    simp only [decide_true, Bool.not_true, Bool.false_or, Bool.or_eq_true] at this
    exact this.imp isK_ok isK_ok
  · have := h5 y hy
    have hh : (decide (y.2 = .local) || decide (y.2 = .cell)) = true := by
      rcases e with e | e <;> simp [e]
    rw [hh] at this
    simp only [Bool.not_true, Bool.false_or, Bool.or_eq_true, List.any_eq_true] at this
    rcases this with ⟨i, hi, q⟩ | q
    · left
      have q := of_decide_eq_true q
      refine List.mem_map.mpr ⟨((N[i]?).getD "", i), List.mem_map.mpr ⟨i, hi, rfl⟩, ?_⟩
      simp [q]
    · right
      simpa using q
end Rz

/-! ### methods -/
namespace Rz
open PySem PySem.Spec PyProof.Rows L2
section
variable {S : Inf} {H0 : Hp} {W : WX} {X : Cx} {C : Nat → List D → Gs → R D}
structure RMt (S : Inf) (T : String) (r : V → List V → Hp → VK → Prop) (b : Bi) : Prop where
  ty : ∀ H B Γ v d, Rep S H B Γ v d → mtyp b d = true → tyV S.K T v H
  run : ∀ H B Γ v vs d ds e Q, BadOk H B Γ → Rep S H B Γ v d → Reps S H B Γ vs ds → mtyp b d = true → bi b (d :: ds) = some e → (∀ w H', L2.Same H H' → Rep S H' B Γ w e → FreshAt S H H' B Γ w e → Q w H') → r v vs H Q
theorem eok_meth {T : String} {r : V → List V → Hp → VK → Prop} {b : Bi} {a : Ex} {es : List Ex} {pe : Expr} (h : PE X pe (tBM S.K T r (tD S H0 W C a) (tDs S H0 W C es))) (hr : RMt S T r b) : PE X pe (tD S H0 W C (.meth b a es)) := by
  refine h.imp fun σ H Q ⟨env, g, B, Γ, sl, ce, hh⟩ => ?_
  have hh : Out S σ W H B Γ ((evE C a env g).bind fun x g => if mtyp b x then (evEs C es env g).bind fun ds g => .of (bi b (x :: ds)) g else .no) _ := hh
  refine tD_bind sl ce hh fun d g1 H1 B1 Γ1 v sl1 ce1 s1 r1 _ h1 => ?_
  cases hm : mtyp b d with
  | false => rw [hm] at h1; exact h1.elim
  | true =>
    rw [hm] at h1
    refine ⟨hr.ty H1 B1 Γ1 v d r1 hm, ?_⟩
    refine tDs_bindL sl1 ce1 h1 fun ds g2 H2 B2 Γ2 vs hlen sl2 ce2 s2 r2 h2 => ?_
    obtain ⟨e, ee, h3⟩ := h2.of
    exact hr.run H2 B2 Γ2 v vs d ds e Q ce2.ok (r1.step ce1.ok s2) r2 hm ee fun w H3 s3 r3 fr => h3 H3 B2 Γ2 (ce2.same s3) (Same.step s3) w r3 fun _ => s1.seqF (s2.seqF fr)
theorem eqV_ii (i j : Int) : eqV (.int i) (.int j) = (i == j) := rfl
theorem rm_index : RMt S "list" (rIndex S.K) .index where
  ty := fun H B Γ v d r h => by
    cases r with
    | lst hx nb q => exact .inl ⟨rfl, _, SqL.of hx⟩
    | _ => cases h
  run := fun H B Γ v vs d ds e Q ok r rs hm he k => by
    cases r with
    | @lst a us xs hx nb q =>
      match ds, rs, he with
      | [y], rs, he =>
        obtain ⟨w, rfl, ry⟩ := reps1 rs
        cases ry with
        | int i =>
          have he : ((intsOf xs).bind fun ns => (ns.findIdx? (· == i)).map fun j => D.int (j : Nat)) = some e := he
          cases e1 : intsOf xs with
          | none => rw [e1] at he; cases he
          | some ns =>
            rw [e1] at he
            have he : ((ns.findIdx? (· == i)).map fun j => D.int ((j : Nat) : Int)) = some e := he
            cases e2 : ns.findIdx? (· == i) with
            | none => rw [e2] at he; cases he
            | some j =>
              rw [e2] at he
              injection he with he
              subst he
              obtain ⟨ev, _⟩ := reps_ints q e1
              subst ev
              rw [List.findIdx?_eq_some_iff_getElem] at e2
              obtain ⟨hj, hp, hn⟩ := e2
              refine ⟨a, ns.map V.int, .int i, j, .int ns[j], rfl, rfl, SqL.of hx, rfl, ?_, ?_, ?_, fun m z hm hz => ?_, k _ H (L2.Same.refl H) (.int _) trivial⟩
              · rw [List.all_map]; exact List.all_eq_true.mpr fun _ _ => rfl
              · simp [hj]
              · rw [eqV_ii]; exact hp
              · have hm' : m < ns.length := by omega
                simp [hm'] at hz
                subst hz
                rw [eqV_ii]
                have := hn m hm
                simpa using this
        | _ => cases he
      | [], _, he => cases he
      | _ :: _ :: _, _, he => cases he
    | _ => cases hm
end
/-- a call of a method -/
def vMth : Expr → Option (Expr × Str × List Expr × Bool)
  | .Call (.Attribute o m ap) es [] cp => some (o, m, es, ap.endLine == cp.line)
  | _ => none
theorem vMth_ok {e o : Expr} {m : Str} {es : List Expr} {b : Bool} (h : vMth e = some (o, m, es, b)) : ∃ ap cp, e = .Call (.Attribute o m ap) es [] cp ∧ (ap.endLine == cp.line) = b := by
  unfold vMth at h
  split at h
  · injection h with h; injection h with h1 h; injection h with h2 h; injection h with h3 h4; subst h1 h2 h3 h4; exact ⟨_, _, rfl, rfl⟩
  · cases h
end Rz

/-! RzZ1 -/
set_option Elab.async false
set_option linter.all false
set_option maxRecDepth 100000
set_option maxHeartbeats 4000000
namespace Rz
open PySem PySem.Spec PyProof.Rows L2
open Sem (wp)

/-! ### a zip whose tuples stay out -/
section
variable {prog : Program} {w : World} {A : Around} {E : Value → Shared → Prop} {s : Shared} {z TI TO T i1 i2 : Addr} {f : Bool} {oT : Obj} {fp1 fp2 : List Addr} {n1 n2 i : Nat} {P1 P2 : Nat → Value → Prop} {St1 St2 : Nat → Heap → Prop}
theorem zipH_next_item {Q : Value → Shared → Prop} (S : ZipSep2 z TI TO i1 i2 fp1 fp2) (D1 : Draws prog w A i1 fp1 n1 P1 St1) (D2 : Draws prog w A i2 fp2 n2 P2 St2)
    (hz : IsZipHeld s.heap z TI TO T f) (hT : s.heap.get? T = some oT) (hTI : IsTupOf2 s.heap TI (.ref i1) (.ref i2)) (st1 : St1 i s.heap) (st2 : St2 i s.heap) (hlt1 : i < n1) (hlt2 : i < n2)
    (hQ : ∀ x1 x2 h' tk, P1 i x1 → P2 i x2 → IsZipHeld h' z TI TO T true → St1 (i + 1) h' → St2 (i + 1) h' → IsTupOf2 h' s.heap.objs.size x1 x2 → h'.objs.size = s.heap.objs.size + 1 →
      (∀ c o, c ≠ z → c ≠ i1 → c ≠ i2 → s.heap.get? c = some o → h'.get? c = some o) → Q (.ref s.heap.objs.size) { s with heap := h', toks := tk }) :
    wpAny (model prog w) A (Builtin.«zip.__next__» ⟨[.ref z], []⟩) (fun fin s' => ∃ v, fin = .done (.ret v) ∧ Q v s') E s := by
  obtain ⟨hp, g, d, tk0, os⟩ := s
  show wpAny _ _ (field (.ref z) 2 >>= _) _ _ _
  refine wpAny_bind (wpAny_field hz rfl (x := .bool false) rfl ?_)
  show wpAny _ _ (field (.ref z) 3 >>= _) _ _ _
  refine wpAny_bind (wpAny_field hz rfl (x := .ref TI) rfl ?_)
  refine wpAny_bind (wpAny_seqItems hTI rfl ?_)
  show wpAny _ _ (Builtin.SmallTypes.ownedTupleIsFree (.ref z) >>= _) _ _ _
  refine wpAny_bind (wpAny_tupleHeld_zip hz hT fun g0 hz0 hs0 => ?_)
  replace hs0 : Heap.SameBut z hp g0 := hs0
  simp only [Bool.false_eq_true, if_false]
  refine wpAny_bind ?_
  rw [← Array.forIn_toList]
  simp only [List.forIn_cons, List.forIn_nil]
  refine wpAny_bind (wpAny_bind (wpAny_holding ?_))
  show wpAny _ _ (Builtin.SmallTypes.nextOf (.ref i1) >>= _) _ _ ⟨g0, g, d, tk0, os⟩
  refine wpAny_bind (D1.item i _ _ _ hlt1 (D1.over st1 hs0 S.zf1) fun x1 p1 tk1 hx1 sn1 hp1 => wpAny_pure ?_)
  replace hp1 : Heap.SameBut i1 g0 p1 := hp1
  refine wpAny_pure ?_
  refine wpAny_bind (wpAny_bind (wpAny_holding ?_))
  show wpAny _ _ (Builtin.SmallTypes.nextOf (.ref i2) >>= _) _ _ ⟨p1, g, d, tk1, os⟩
  refine wpAny_bind (D2.item i _ _ _ hlt2 (D2.over (D2.over st2 hs0 S.zf2) hp1 S.sep1_2) fun x2 p2 tk2 hx2 sn2 hp2 => wpAny_pure ?_)
  replace hp2 : Heap.SameBut i2 p1 p2 := hp2
  refine wpAny_pure (wpAny_pure ?_)
  show wpAny _ _ (newTuple [x1, x2] >>= _) _ _ _
  refine wpAny_bind (wpAny_newTuple ?_)
  have hsz : p2.objs.size = hp.objs.size := by rw [hp2.1, hp1.1, hs0.1]
  have hz3 : IsZipHeld p2 z TI TO T true := hp2.extBut _ _ S.zi2 (hp1.extBut _ _ S.zi1 hz0)
  have hk : ∀ c o, c ≠ z → c ≠ i1 → c ≠ i2 → hp.get? c = some o → p2.get? c = some o := fun c o c1 c2 c3 e => hp2.extBut _ _ c3 (hp1.extBut _ _ c2 (hs0.extBut _ _ c1 e))
  have j1 : St1 (i + 1) p2 := D1.over sn1 hp2 S.sep2_1
  refine wpAny_pure ⟨_, rfl, ?_⟩
  show Q (.ref p2.objs.size) _
  have hpn : IsTupOf2 (p2.push { cls := .type "tuple", data := .seq #[x1, x2] }) p2.objs.size x1 x2 := Heap.get?_push_size _ rfl
  have hz4 : (p2.push { cls := .type "tuple", data := .seq #[x1, x2] }).objs.size = p2.objs.size + 1 := Heap.size_push ..
  rw [hsz] at hpn hz4 ⊢
  exact hQ x1 x2 _ tk2 hx1 hx2 (Heap.get?_push_of_some _ hz3) (D1.frame _ _ _ j1 fun b _ o e => Heap.get?_push_of_some _ e) (D2.frame _ _ _ sn2 fun b _ o e => Heap.get?_push_of_some _ e) hpn hz4 fun c o c1 c2 c3 e => Heap.get?_push_of_some _ (hk c o c1 c2 c3 e)
theorem zipH_next_end {Q : Fin → Shared → Prop} (S : ZipSep2 z TI TO i1 i2 fp1 fp2) (D1 : Draws prog w A i1 fp1 n1 P1 St1) (D2 : Draws prog w A i2 fp2 n2 P2 St2)
    (hz : IsZipHeld s.heap z TI TO T f) (hT : s.heap.get? T = some oT) (hTI : IsTupOf2 s.heap TI (.ref i1) (.ref i2)) (st1 : St1 i s.heap) (st2 : St2 i s.heap) (hle1 : i ≤ n1) (hle2 : i ≤ n2) (hend : i = n1 ∨ i = n2)
    (hE : ∀ h' tk e, (∀ c o, c ≠ z → c ≠ i1 → c ≠ i2 → s.heap.get? c = some o → h'.get? c = some o) → (∃ o, h'.get? e = some o ∧ o.cls = .type "StopIteration") → E (.ref e) { s with heap := h', toks := tk }) :
    wpAny (model prog w) A (Builtin.«zip.__next__» ⟨[.ref z], []⟩) Q E s := by
  obtain ⟨hp, g, d, tk0, os⟩ := s
  show wpAny _ _ (field (.ref z) 2 >>= _) _ _ _
  refine wpAny_bind (wpAny_field hz rfl (x := .bool false) rfl ?_)
  show wpAny _ _ (field (.ref z) 3 >>= _) _ _ _
  refine wpAny_bind (wpAny_field hz rfl (x := .ref TI) rfl ?_)
  refine wpAny_bind (wpAny_seqItems hTI rfl ?_)
  show wpAny _ _ (Builtin.SmallTypes.ownedTupleIsFree (.ref z) >>= _) _ _ _
  refine wpAny_bind (wpAny_tupleHeld_zip hz hT fun g0 hz0 hs0 => ?_)
  replace hs0 : Heap.SameBut z hp g0 := hs0
  simp only [Bool.false_eq_true, if_false]
  refine wpAny_bind ?_
  rw [← Array.forIn_toList]
  simp only [List.forIn_cons, List.forIn_nil]
  refine wpAny_bind (wpAny_bind (wpAny_holding ?_))
  show wpAny _ _ (Builtin.SmallTypes.nextOf (.ref i1) >>= _) _ _ ⟨g0, g, d, tk0, os⟩
  by_cases hlt1 : i < n1
  · refine wpAny_bind (D1.item i _ _ _ hlt1 (D1.over st1 hs0 S.zf1) fun x1 p1 tk1 hx1 sn1 hp1 => wpAny_pure ?_)
    replace hp1 : Heap.SameBut i1 g0 p1 := hp1
    refine wpAny_pure ?_
    have hi2 : i = n2 := by omega
    refine wpAny_bind (wpAny_bind (wpAny_holding ?_))
    show wpAny _ _ (Builtin.SmallTypes.nextOf (.ref i2) >>= _) _ _ ⟨p1, g, d, tk1, os⟩
    refine wpAny_bind (D2.done ⟨p1, g, d, tk1, os⟩ _ _ (by rw [← hi2]; exact D2.over (D2.over st2 hs0 S.zf2) hp1 S.sep1_2) fun q e hq he => ?_)
    replace hq : Heap.ExtBut i2 p1 q := hq
    exact hE q tk1 e (fun c o c1 c2 c3 x => hq _ _ c3 (hp1.extBut _ _ c2 (hs0.extBut _ _ c1 x))) he
  · have hi1 : i = n1 := by omega
    refine wpAny_bind (D1.done ⟨g0, g, d, tk0, os⟩ _ _ (by rw [← hi1]; exact D1.over st1 hs0 S.zf1) fun q e hq he => ?_)
    replace hq : Heap.ExtBut i1 g0 q := hq
    exact hE q tk0 e (fun c o c1 c2 _ x => hq _ _ c2 (hs0.extBut _ _ c1 x)) he
theorem wpAny_pyNext_zipH_item {Q : Option Value → Shared → Prop} (S : ZipSep2 z TI TO i1 i2 fp1 fp2) (D1 : Draws prog w A.in1 i1 fp1 n1 P1 St1) (D2 : Draws prog w A.in1 i2 fp2 n2 P2 St2)
    (hz : IsZipHeld s.heap z TI TO T f) (hT : s.heap.get? T = some oT) (hTI : IsTupOf2 s.heap TI (.ref i1) (.ref i2)) (st1 : St1 i s.heap) (st2 : St2 i s.heap) (hlt1 : i < n1) (hlt2 : i < n2)
    (hQ : ∀ x1 x2 h' tk, P1 i x1 → P2 i x2 → IsZipHeld h' z TI TO T true → St1 (i + 1) h' → St2 (i + 1) h' → IsTupOf2 h' s.heap.objs.size x1 x2 → h'.objs.size = s.heap.objs.size + 1 →
      (∀ c o, c ≠ z → c ≠ i1 → c ≠ i2 → s.heap.get? c = some o → h'.get? c = some o) → Q (some (.ref s.heap.objs.size)) { s with heap := h', toks := tk }) :
    wpAny (model prog w) A (pyNext (.ref z)) Q E s := by
  have hTy : s.TypeIs (.ref z) "zip" := ⟨_, hz, rfl⟩
  unfold pyNext
  exact wpAny_bind (wpAny_attempt (wpAny_callSpecial?_slot (name := Str.ofString "__next__") hTy F.slot_zip_next
    (wpAny_call_entry F.slot_zip_next hTy F.entry_zip_next
      (zipH_next_item S D1 D2 hz hT hTI st1 st2 hlt1 hlt2 fun x1 x2 h' tk y1 y2 a1 a3 a4 a5 a6 a7 => wpAny_pure (hQ x1 x2 h' tk y1 y2 a1 a3 a4 a5 a6 a7)) (F.args_zip_next_1 _))))
theorem wpAny_pyNext_zipH_end {Q : Option Value → Shared → Prop} (S : ZipSep2 z TI TO i1 i2 fp1 fp2) (D1 : Draws prog w A.in1 i1 fp1 n1 P1 St1) (D2 : Draws prog w A.in1 i2 fp2 n2 P2 St2)
    (hz : IsZipHeld s.heap z TI TO T f) (hT : s.heap.get? T = some oT) (hTI : IsTupOf2 s.heap TI (.ref i1) (.ref i2)) (st1 : St1 i s.heap) (st2 : St2 i s.heap) (hle1 : i ≤ n1) (hle2 : i ≤ n2) (hend : i = n1 ∨ i = n2)
    (hQ : ∀ h' tk, (∀ c o, c ≠ z → c ≠ i1 → c ≠ i2 → s.heap.get? c = some o → h'.get? c = some o) → Q none { s with heap := h', toks := tk }) :
    wpAny (model prog w) A (pyNext (.ref z)) Q E s := by
  have hTy : s.TypeIs (.ref z) "zip" := ⟨_, hz, rfl⟩
  unfold pyNext
  refine wpAny_bind (wpAny_attempt (wpAny_callSpecial?_slot (name := Str.ofString "__next__") hTy F.slot_zip_next
    (wpAny_call_entry F.slot_zip_next hTy F.entry_zip_next (zipH_next_end S D1 D2 hz hT hTI st1 st2 hle1 hle2 hend fun h' tk e hk he => ?_) (F.args_zip_next_1 _))))
  obtain ⟨o, ho, hc⟩ := he
  refine wpAny_bind (wpAny_isInstance (T := "StopIteration") (b := true) ⟨o, ho, hc⟩ isSubtype_stop ?_)
  exact wpAny_pure (hQ _ _ hk)
end
theorem Src.At.at_ {h h' : Heap} {its : Array Value} {c : Src} (x : c.At h its) (k : ∀ o, h.get? c.ad = some o → h'.get? c.ad = some o) : c.At h' its := by
  cases c with
  | l a => exact Heap.IsList.at x k
  | t a => exact Heap.IsTuple.at x k
theorem Src.At.live {h : Heap} {its : Array Value} {c : Src} (x : c.At h its) : ∃ o, h.get? c.ad = some o := by
  cases c with
  | l a => obtain ⟨o, e, _⟩ := x; exact ⟨o, e⟩
  | t a => obtain ⟨o, e, _⟩ := x; exact ⟨o, e⟩
/-- dict(zip(..)) over two sources -/
theorem pairArg_zipS {prog : Program} {w : World} {n z TI TO i1 i2 : Addr} {c d : Src} (Z : ZAt n z TI TO i1 i2 c d) (xs ys : Array Value) :
    PairArg prog w "zip" z [z, TI, TO, i1, i2, c.ad, d.ad] [z, TO, i1, i2] (min xs.size ys.size) (fun i k v => xs[i]? = some k ∧ ys[i]? = some v)
      (fun h => IsZip h z TI TO .none ∧ IsTupOf2 h TI (.ref i1) (.ref i2) ∧ (∃ a1 a2, IsTupOf2 h TO a1 a2) ∧ (c.It h i1 0 ∧ c.At h xs) ∧ (d.It h i2 0 ∧ d.At h ys)) where
  type := fun s ok => ⟨_, ok.1, rfl⟩
  notDict := by decide
  keep := fun h h' ok hk => by
    obtain ⟨hz, hTI, ⟨a1, a2, hTO⟩, ⟨c1, c2⟩, d1, d2⟩ := ok
    exact ⟨hk _ _ hz, hk _ _ hTI, ⟨a1, a2, hk _ _ hTO⟩, ⟨c1.at_ fun o e => hk _ o e, c2.at_ fun o e => hk _ o e⟩, d1.at_ fun o e => hk _ o e, d2.at_ fun o e => hk _ o e⟩
  there := fun h ok b hb => by
    obtain ⟨hz, hTI, ⟨a1, a2, hTO⟩, ⟨c1, c2⟩, d1, d2⟩ := ok
    simp only [List.mem_cons, List.not_mem_nil, or_false] at hb
    rcases hb with q | q | q | q | q | q | q
    · rw [q]; exact ⟨_, hz⟩
    · rw [q]; exact ⟨_, hTI⟩
    · rw [q]; exact ⟨_, hTO⟩
    · rw [q]; obtain ⟨o, e, _⟩ := c1.rec_; exact ⟨o, e⟩
    · rw [q]; obtain ⟨o, e, _⟩ := d1.rec_; exact ⟨o, e⟩
    · rw [q]; exact c2.live
    · rw [q]; exact d2.live
  sub := fun b hb => by
    simp only [List.mem_cons, List.not_mem_nil, or_false] at hb ⊢
    rcases hb with q | q | q | q <;> simp [q]
  noKeys := fun A s Q E hA ok h => getAttrOr_miss_zip ok.1 rfl rfl rfl zip_no_keys (by decide +kernel) hA h
  iter := fun A s dd Q E hA ok hd hdf h => by
    obtain ⟨hz, hTI, ⟨a1, a2, hTO⟩, ⟨c1, c2⟩, d1, d2⟩ := ok
    simp only [List.mem_cons, List.not_mem_nil, or_false, not_or] at hdf
    obtain ⟨dz, dTI, dTO, di1, di2, dc, ddd⟩ := hdf
    have hh : A.in1.handled = none := hA
    have D1 := Src.draws (prog := prog) (w := w) hh c i1 (n_ne1 Z.c Z.i1) xs
    have D2 := Src.draws (prog := prog) (w := w) hh d i2 (n_ne2 Z.d Z.i2) ys
    have S := Z.sep
    refine wpAny_pyIter_zip hz (h z [z, TO, i1, i2] (fun i h => (c.It h i1 i ∧ c.At h xs) ∧ (d.It h i2 i ∧ d.At h ys) ∧ IsTupOf2 h TI (.ref i1) (.ref i2) ∧
      ((IsZip h z TI TO .none ∧ ∃ a1 a2, IsTupOf2 h TO a1 a2) ∨ ∃ T f oT, IsZipHeld h z TI TO T f ∧ h.get? T = some oT ∧ T ≠ z ∧ T ≠ i1 ∧ T ≠ i2 ∧ T ≠ dd)) s.heap s.toks ?_
      ⟨⟨c1, c2⟩, ⟨d1, d2⟩, hTI, .inl ⟨hz, a1, a2, hTO⟩⟩ (fun _ _ e => e) fun b hb => .inl hb)
    exact {
      off := fun hm => by
        simp only [List.mem_cons, List.not_mem_nil, or_false] at hm
        rcases hm with x | x | x | x
        · exact dz x
        · exact dTO x
        · exact di1 x
        · exact di2 x
      frame := fun i h₁ h₂ st hk => by
        obtain ⟨⟨c1, c2⟩, ⟨d1, d2⟩, hTI, hz⟩ := st
        refine ⟨⟨c1.at_ fun o e => hk _ o (Ne.symm di1) e, c2.at_ fun o e => hk _ o (Ne.symm dc) e⟩, ⟨d1.at_ fun o e => hk _ o (Ne.symm di2) e, d2.at_ fun o e => hk _ o (Ne.symm ddd) e⟩, hk _ _ (Ne.symm dTI) hTI, ?_⟩
        rcases hz with ⟨hz, a1, a2, hTO⟩ | ⟨T, f, oT, hz, hT, r1, r2, r3, r4⟩
        · exact .inl ⟨hk _ _ (Ne.symm dz) hz, a1, a2, hk _ _ (Ne.symm dTO) hTO⟩
        · exact .inr ⟨T, f, oT, hk _ _ (Ne.symm dz) hz, hk _ _ r4 hT, r1, r2, r3, r4⟩
      item := fun i s₁ Q₁ E₁ hi st hds hQ => by
        obtain ⟨⟨c1, c2⟩, ⟨d1, d2⟩, hTI, hz⟩ := st
        have hi1 : i < xs.size := by omega
        have hi2 : i < ys.size := by omega
        have lt : ∀ {c o}, s₁.heap.get? c = some o → s₁.heap.objs.size ≠ c := fun e => Nat.ne_of_gt (Heap.lt_size e)
        have l1 : s₁.heap.objs.size ≠ i1 := by obtain ⟨_, e, _⟩ := c1.rec_; exact lt e
        have l2 : s₁.heap.objs.size ≠ i2 := by obtain ⟨_, e, _⟩ := d1.rec_; exact lt e
        rcases hz with ⟨hz, a1, a2, hTO⟩ | ⟨T, f, oT, hz, hT, r1, r2, r3, r4⟩
        · refine wpAny_pyNext_zipD2_item S D1 D2 hz hTI hTO ⟨c1, c2⟩ ⟨d1, d2⟩ hi1 hi2 fun x1 x2 h' tk y1 y2 b1 b2 e1 e2 b5 b6 hk => ?_
          exact hQ s₁.heap.objs.size x1 x2 h' tk ⟨y1, y2⟩ (.inl ⟨_, b5, rfl, _, rfl⟩)
            ⟨e1, e2, hk _ _ S.TIz S.TITO S.TIi1 S.TIi2 hTI, .inr ⟨s₁.heap.objs.size, false, _, b1, b5, lt hz, l1, l2, Nat.ne_of_gt hds⟩⟩
            fun b o hb e => hk b o (fun x => hb (by simp [x])) (fun x => hb (by simp [x])) (fun x => hb (by simp [x])) (fun x => hb (by simp [x])) e
        · refine wpAny_pyNext_zipH_item S D1 D2 hz hT hTI ⟨c1, c2⟩ ⟨d1, d2⟩ hi1 hi2 fun x1 x2 h' tk y1 y2 b1 e1 e2 b5 b6 hk => ?_
          exact hQ s₁.heap.objs.size x1 x2 h' tk ⟨y1, y2⟩ (.inl ⟨_, b5, rfl, _, rfl⟩)
            ⟨e1, e2, hk _ _ S.TIz S.TIi1 S.TIi2 hTI, .inr ⟨T, true, oT, b1, hk _ _ r1 r2 r3 hT, r1, r2, r3, r4⟩⟩
            fun b o hb e => hk b o (fun x => hb (by simp [x])) (fun x => hb (by simp [x])) (fun x => hb (by simp [x])) e
      done := fun s₁ Q₁ E₁ st hQ => by
        obtain ⟨⟨c1, c2⟩, ⟨d1, d2⟩, hTI, hz⟩ := st
        have e1 : min xs.size ys.size = xs.size ∨ min xs.size ys.size = ys.size := by omega
        rcases hz with ⟨hz, a1, a2, hTO⟩ | ⟨T, f, oT, hz, hT, r1, r2, r3, r4⟩
        · exact wpAny_pyNext_zipD2_end S D1 D2 hz hTI hTO ⟨c1, c2⟩ ⟨d1, d2⟩ (by omega) (by omega) e1 fun h' tk hk => hQ h' tk fun b o hb e => hk b o (fun x => hb (by simp [x])) (fun x => hb (by simp [x])) (fun x => hb (by simp [x])) (fun x => hb (by simp [x])) e
        · exact wpAny_pyNext_zipH_end S D1 D2 hz hT hTI ⟨c1, c2⟩ ⟨d1, d2⟩ (by omega) (by omega) e1 fun h' tk hk => hQ h' tk fun b o hb e => hk b o (fun x => hb (by simp [x])) (fun x => hb (by simp [x])) (fun x => hb (by simp [x])) e }
end Rz

/-! RzZ2 -/
set_option Elab.async false
set_option linter.all false
set_option maxRecDepth 100000
set_option maxHeartbeats 4000000
namespace Rz
open PySem PySem.Spec PyProof.Rows L2

/-! ### keys -/
theorem sOf_cps (x : Str) : sOf x.cps.toList = x := by
  unfold sOf
  simp
theorem cps_sOf (l : List Nat) : (sOf l).cps.toList = l := by
  unfold sOf
  simp
theorem keyD_eqv (a b : Key) : D.eqv (keyD a) (keyD b) = decide (a = b) := by
  cases a with
  | inl i => cases b with
    | inl j =>
      show (i == j) = _
      by_cases h : i = j <;> simp [h]
    | inr y => simp [keyD, D.eqv]
  | inr x => cases b with
    | inl j => simp [keyD, D.eqv]
    | inr y =>
      show (x.cps.toList == y.cps.toList) = _
      by_cases h : x = y
      · subst h; simp
      · have : ¬ x.cps.toList = y.cps.toList := fun e => h (by rw [← sOf_cps x, e, sOf_cps])
        simp only [Sum.inr.injEq, h, decide_false]
        exact beq_false_of_ne this
section
variable {S : Inf} {H : Hp} {B : Bad} {Γ : List Addr}
/-- keys that are data -/
theorem key_of_rep {v : V} {d : D} (r : Rep S H B Γ v d) (h : keyOk d = true) : ∃ k : Key, v = kV k ∧ d = keyD k := by
  cases r with
  | int i => exact ⟨.inl i, rfl, rfl⟩
  | str l => exact ⟨.inr (sOf l), rfl, by show D.str l = D.str _; rw [cps_sOf]⟩
  | _ => cases h
theorem keys_of_reps : ∀ {vs : List V} {ds : List D}, Reps S H B Γ vs ds → ds.all keyOk = true → ∃ ks : List Key, vs = ks.map kV ∧ ds = ks.map keyD
  | _, _, .nil, _ => ⟨[], rfl, rfl⟩
  | _, _, .cons r rs, h => by
    rw [List.all_cons, Bool.and_eq_true] at h
    obtain ⟨k, e1, e2⟩ := key_of_rep r h.1
    obtain ⟨ks, e3, e4⟩ := keys_of_reps rs h.2
    exact ⟨k :: ks, by rw [e1, e3]; rfl, by rw [e2, e4]; rfl⟩
theorem dhas_key (k : Key) (kvs : List (Key × V)) : dhas (keyD k) (kvs.map fun p => keyD p.1) = kvs.any fun kv => decide (kv.1 = k) := by
  unfold dhas
  rw [List.any_map]
  congr 1
  funext p
  exact keyD_eqv p.1 k
theorem reps_app : ∀ {vs us : List V} {ds es : List D}, Reps S H B Γ vs ds → Reps S H B Γ us es → Reps S H B Γ (vs ++ us) (ds ++ es)
  | _, _, _, _, .nil, r => r
  | _, _, _, _, .cons h t, r => .cons h (reps_app t r)
theorem reps_repl {k : Key} {v : V} {d : D} (r : Rep S H B Γ v d) : ∀ {kvs : List (Key × V)} {ds : List D}, Reps S H B Γ (kvs.map (·.2)) ds →
    Reps S H B Γ ((kvs.map fun kv => if kv.1 = k then (kv.1, v) else kv).map (·.2)) (((kvs.map fun p => keyD p.1).zip ds).map fun p => if D.eqv p.1 (keyD k) then d else p.2)
  | [], _, rs => by cases rs; exact .nil
  | p :: kvs, _, rs => by
    cases rs with
    | cons h t =>
      refine .cons ?_ (reps_repl r t)
      show Rep S H B Γ (if p.1 = k then (p.1, v) else p).2 (if D.eqv (keyD p.1) (keyD k) = true then d else _)
      rw [keyD_eqv]
      by_cases e : p.1 = k
      · simp only [e, if_true, decide_true]; exact r
      · simp only [e, if_false, decide_false, Bool.false_eq_true]; exact h
/-- a dict put on -/
theorem put_rep {k : Key} {v : V} {d : D} (r : Rep S H B Γ v d) {kvs : List (Key × V)} {ks ds : List D} (hk : kvs.map (fun p => keyD p.1) = ks) (rs : Reps S H B Γ (kvs.map (·.2)) ds) :
    (putK kvs k v).map (fun p => keyD p.1) = (dput (keyD k) d ks ds).1 ∧ Reps S H B Γ ((putK kvs k v).map (·.2)) (dput (keyD k) d ks ds).2 := by
  subst hk
  unfold putK dput
  rw [dhas_key]
  by_cases c : (kvs.any fun kv => decide (kv.1 = k)) = true
  · rw [if_pos c, if_pos c]
    refine ⟨?_, reps_repl r rs⟩
    simp only [List.map_map]
    refine List.map_congr_left fun p _ => ?_
    by_cases e : p.1 = k <;> simp [e]
  · rw [if_neg c, if_neg c]
    refine ⟨by rw [List.map_append]; rfl, ?_⟩
    rw [List.map_append]
    exact reps_app rs (.cons r .nil)
theorem merge_rep : ∀ {more : List (Key × V)} {ds : List D} {kvs : List (Key × V)} {ks es : List D}, Reps S H B Γ (more.map (·.2)) ds → kvs.map (fun p => keyD p.1) = ks → Reps S H B Γ (kvs.map (·.2)) es →
    (mergeK kvs more).map (fun p => keyD p.1) = (((more.map fun p => keyD p.1).zip ds).foldl (fun (r : List D × List D) p => dput p.1 p.2 r.1 r.2) (ks, es)).1 ∧
    Reps S H B Γ ((mergeK kvs more).map (·.2)) (((more.map fun p => keyD p.1).zip ds).foldl (fun (r : List D × List D) p => dput p.1 p.2 r.1 r.2) (ks, es)).2
  | [], _, _, _, _, _, hk, r => ⟨hk, r⟩
  | p :: more, _, kvs, ks, es, rs, hk, r => by
    rw [List.map_cons] at rs
    cases rs with
    | cons h t =>
      obtain ⟨q1, q2⟩ := put_rep (k := p.1) h hk r
      exact merge_rep (more := more) t q1 q2
theorem valV_look {kvs : List (Key × V)} (k : Key) : ∀ {ds : List D}, Reps S H B Γ (kvs.map (·.2)) ds →
    (∃ v d, valV kvs k = some v ∧ dlook (keyD k) (kvs.map fun p => keyD p.1) ds = some d ∧ Rep S H B Γ v d) ∨ (valV kvs k = none ∧ dlook (keyD k) (kvs.map fun p => keyD p.1) ds = none) := by
  induction kvs with
  | nil => intro ds r; cases r; exact .inr ⟨rfl, rfl⟩
  | cons p kvs ih =>
    intro ds r
    cases r with
    | @cons _ _ d ds h t =>
      by_cases e : p.1 = k
      · refine .inl ⟨p.2, d, valV_pos e, ?_, h⟩
        show (if D.eqv (keyD p.1) (keyD k) = true then some d else _) = _
        rw [keyD_eqv, decide_eq_true e, if_pos rfl]
      · rw [valV_neg e]
        have : dlook (keyD k) ((p :: kvs).map fun p => keyD p.1) (d :: ds) = dlook (keyD k) (kvs.map fun p => keyD p.1) ds := by
          show (if D.eqv (keyD p.1) (keyD k) = true then some d else _) = _
          rw [keyD_eqv, decide_eq_false e, if_neg Bool.false_ne_true]
        rw [this]; exact ih t
end

/-! ### dict(zip(..)) -/
theorem raw_pairs {P : Program} {w : World} : ∀ {kvs : List (Key × V)} {us us2 : List Value}, Vals (kvs.map fun p => kV p.1) us → Vals (kvs.map (·.2)) us2 →
    ∃ prs : List (Key × Value), KV kvs prs ∧ prs.length = us.length ∧ us.length = us2.length ∧ ∀ (i : Nat) (k v : Value), us[i]? = some k → us2[i]? = some v → ∃ q, prs[i]? = some (q, v) ∧ (mixKind P w).is q k = true
  | [], _, _, r, r2 => by
    rw [List.map_nil] at r r2
    cases r; cases r2
    exact ⟨[], .nil, rfl, rfl, fun i k v e => by simp at e⟩
  | p :: kvs, _, _, r, r2 => by
    rw [List.map_cons] at r r2
    cases r with
    | @cons _ u _ us h t =>
      cases r2 with
      | @cons _ u2 _ us2 h2 t2 =>
        obtain ⟨prs, q1, q2, q3, q4⟩ := raw_pairs (P := P) (w := w) t t2
        refine ⟨(p.1, u2) :: prs, .cons ⟨rfl, h2⟩ q1, by simp [q2], by simp [q3], fun i k v e1 e2 => ?_⟩
        cases i with
        | zero =>
          simp at e1 e2
          subst e1 e2
          exact ⟨p.1, rfl, kV_is h⟩
        | succ i =>
          obtain ⟨q, a, b⟩ := q4 i k v (by simpa using e1) (by simpa using e2)
          exact ⟨q, by simpa using a, b⟩
section
variable {X : Cx}
def tDZ (K : PySem.W.Frag) (ta : TA) : TE := fun σ H Q => ta σ H fun vs H1 => ∃ (c d : Src) (kvs : List (Key × V)), vs = [.ref c.ad, .ref d.ad] ∧ c.Sq K H1 (kvs.map fun p => kV p.1) ∧ d.Sq K H1 (kvs.map (·.2)) ∧
  ∀ p, H1 p = none → Q (.ref p) (upd H1 p (.dK (mergeK [] kvs)))
theorem pe_dzip {e e2 : Expr} {ta : TA} {p p2 pos pos2 : Pos} (hcalm : X.calm = true) (hg : Gl X "zip") (hm : X.mg "zip" = none) (hg2 : Gl X "dict") (hm2 : X.mg "dict" = none) (ha : PA X [e, e2] ta)
    (hs : starEach [e, e2] X.env = (false, eval e X.env) :: starEach [e2] X.env) (hpl : (backTo pos (starEach [e2] X.env)).any (·.1) = false) :
    PE X (.Call (.Name "dict" p2) [.Call (.Name "zip" p) [e, e2] [] pos] [] pos2) (tDZ X.K ta) := by
  refine ⟨fun pins s σ H Q I h => ?_⟩
  have na : starEach [Expr.Call (.Name "zip" p) [e, e2] [] pos] X.env = (false, eval (.Call (.Name "zip" p) [e, e2] [] pos) X.env) :: starEach [] X.env := rfl
  refine Call_ (ld_blt I hg2 hm2 PyProof.Rows.boot_dict (PyProof.Rows.callWith_type1 (args_cons ?_ na) na))
  refine Call_ (ld_blt I hg hm PyProof.Rows.boot_zip (PyProof.Rows.callWith_type1 (thn (ha.run pos pins s σ H _ I h) fun us s1 ⟨vs, H1, I1, r1, q1⟩ => ?_) hs hpl))
  obtain ⟨c, d, kvs, ex, hc, hd, q⟩ := q1
  subst ex
  cases r1 with
  | cons r rr =>
    cases rr with
    | cons r' rr =>
      cases rr
      cases r
      cases r'
      obtain ⟨its, rv, p1, z1, l1⟩ := Src.read I1 hc
      obtain ⟨its2, rv2, p2', _, l2⟩ := Src.read I1 hd
      refine zip_begins2 (Src.begins c its.toArray) (Src.begins d its2.toArray) p1 p2' fun h' hz hTI hTO h1 h2 hsz hk => args_nil ?_
      have I2 : L2.Inv X pins σ H1 { s1 with heap := h' } := I1.kept (t' := s1.toks) hk
      have Z : ZAt s1.heap.objs.size (s1.heap.objs.size + 4) (s1.heap.objs.size + 2) (s1.heap.objs.size + 3) s1.heap.objs.size (s1.heap.objs.size + 1) c d := ⟨rfl, rfl, rfl, rfl, rfl, l1, l2⟩
      obtain ⟨prs, k1, k2, k3, k4⟩ := raw_pairs (P := X.prog) (w := X.w) rv rv2
      have hn : min its.toArray.size its2.toArray.size = prs.length := by
        rw [List.size_toArray, List.size_toArray, ← k3, Nat.min_self, k2]
      have hkl : kvs.length = prs.length := k1.length
      have hle : kvs.length ≤ sizeLine := by simpa using z1
      refine call_dict_pairs (knd := mixKind X.prog X.w) (kvs := prs) (pairArg_zipS Z its.toArray its2.toArray) (I2.ok.hd hcalm)
        ⟨hz, hTI, ⟨_, _, hTO⟩, ⟨c.first h1, p1.at_ fun o e => hk _ _ e⟩, d.first h2, p2'.at_ fun o e => hk _ _ e⟩
        ⟨hn.symm, fun i k v ⟨e1, e2⟩ => k4 i k v (by simpa using e1) (by simpa using e2)⟩ (by rw [hn, ← hkl]; exact hle) fun h'' tk hd' hk' => ?_
      have hm' : (h'.objs.size == sysModules) = false := beq_eq_false_iff_ne.mpr (Nat.ne_of_gt I2.big)
      have hlen : (mergeK [] kvs).length ≤ sizeLine := Nat.le_trans (length_mergeK kvs []) (by rw [List.length_nil, Nat.zero_add]; exact hle)
      have new : ObjOk X.prog X.w (upd H1 h'.objs.size (.dK (mergeK [] kvs))) h'' h'.objs.size (.dK (mergeK [] kvs)) := ⟨hlen, hm', merged [] prs, KV.merge k1 .nil, hd'⟩
      refine ⟨.ref h'.objs.size, _, I2.turnedNew (t' := tk) (ch := [s1.heap.objs.size + 4, s1.heap.objs.size + 2, s1.heap.objs.size + 3, s1.heap.objs.size, s1.heap.objs.size + 1]) (fun b o hb e => hk' b o (fun hm => hb (by
        simp only [List.mem_cons, List.not_mem_nil, or_false] at hm ⊢
        rcases hm with x | x | x | x <;> simp [x])) e) (fun b hb => ?_) (Nat.le_refl _) new, rfl, q _ (I2.hok.fresh (Nat.le_refl _))⟩
      have e' : b = s1.heap.objs.size + 4 ∨ b = s1.heap.objs.size + 2 ∨ b = s1.heap.objs.size + 3 ∨ b = s1.heap.objs.size ∨ b = s1.heap.objs.size + 1 := by simpa using hb
      have hle : s1.heap.objs.size ≤ b := by
        rcases e' with z | z | z | z | z
        · rw [z]; exact Nat.le_add_right _ _
        · rw [z]; exact Nat.le_add_right _ _
        · rw [z]; exact Nat.le_add_right _ _
        · rw [z]; exact Nat.le_refl _
        · rw [z]; exact Nat.le_add_right _ _
      exact I1.fpOk hle (I1.hok.fresh hle)
end
section
variable {S : Inf} {H0 : Hp} {W : WX} {X : Cx} {C : Nat → List D → Gs → R D}
theorem new_dic {H : Hp} {B : Bad} {Γ : List Addr} {p : Addr} {kvs : List (Key × V)} {ks ds : List D} (ok : BadOk H B Γ) (h : H p = none) (hk : kvs.map (fun p => keyD p.1) = ks) (r : Reps S H B Γ (kvs.map (·.2)) ds) :
    Rep S (upd H p (.dK kvs)) B Γ (.ref p) (.dic ks ds) ∧ FreshAt S H (upd H p (.dK kvs)) B Γ (.ref p) (.dic ks ds) :=
  ⟨.dic upd_same (not_bad_new ok h) hk (r.step ok (Same.step (same_laid h))), p, kvs, rfl, h, not_bad_new ok h, upd_same, hk, Reps.more' h r⟩
theorem zip_kvs : ∀ {ks : List Key} {us : List V}, ks.length = us.length → ∃ kvs : List (Key × V), kvs.map (fun p => p.1) = ks ∧ kvs.map (·.2) = us
  | [], [], _ => ⟨[], rfl, rfl⟩
  | [], _ :: _, h => by simp at h
  | _ :: _, [], h => by simp at h
  | k :: ks, u :: us, h => by
    obtain ⟨kvs, e1, e2⟩ := zip_kvs (ks := ks) (us := us) (by simpa using h)
    exact ⟨(k, u) :: kvs, by simp [e1], by simp [e2]⟩
theorem eok_dzip (hK : X.K = S.K) (hcalm : X.calm = true) {e e2 : Ex} {pe pe2 : Expr} {p p2 pos pos2 : Pos} (hg : Gl X "zip") (hm : X.mg "zip" = none) (hg2 : Gl X "dict") (hm2 : X.mg "dict" = none) (h : PA X [pe, pe2] (tDs S H0 W C [e, e2]))
    (hs : starEach [pe, pe2] X.env = (false, eval pe X.env) :: starEach [pe2] X.env) (hpl : (backTo pos (starEach [pe2] X.env)).any (·.1) = false) :
    PE X (.Call (.Name "dict" p2) [.Call (.Name "zip" p) [pe, pe2] [] pos] [] pos2) (tD S H0 W C (.bi .dzip [e, e2])) := by
  refine (pe_dzip hcalm hg hm hg2 hm2 h hs hpl).imp fun σ H Q ⟨env, g, B, Γ, sl, ce, hh⟩ => ?_
  refine tDs_bindL sl ce hh fun ds g1 H1 B1 Γ1 vs hlen sl1 ce1 s1 r1 h1 => ?_
  obtain ⟨d, ee, h3⟩ := h1.of
  match ds, hlen, r1, ee with
  | [d1, d2], _, r1, ee =>
    obtain ⟨v1, v2, rfl, q1, q2⟩ := reps2 r1
    have ee : (match seqOf d1, seqOf d2 with
      | some a, some b => if a.all keyOk && a.length == b.length then
          let r := (a.zip b).foldl (fun (r : List D × List D) p => dput p.1 p.2 r.1 r.2) ([], [])
          some (D.dic r.1 r.2)
        else none
      | _, _ => none) = some d := ee
    cases e1 : seqOf d1 with
    | none => rw [e1] at ee; cases ee
    | some a =>
      cases e2 : seqOf d2 with
      | none => rw [e1, e2] at ee; cases ee
      | some b =>
        rw [e1, e2] at ee
        obtain ⟨hl, he⟩ := ite_some ee
        rw [Bool.and_eq_true] at hl
        obtain ⟨c, ev, us, rs, hs'⟩ := src_of ce1.ok q1 e1
        obtain ⟨c2, ev2, us2, rs2, hs2⟩ := src_of ce1.ok q2 e2
        obtain ⟨ks, k1, k2⟩ := keys_of_reps rs hl.1
        have hlen : a.length = b.length := by simpa using hl.2
        have l1 := rs.length
        have l2 := rs2.length
        have l3 : ks.length = us2.length := by
          have := congrArg List.length k2
          rw [List.length_map] at this
          omega
        obtain ⟨kvs, f1, f2⟩ := zip_kvs l3
        have f3 : (kvs.map fun p => kV p.1) = us := by rw [k1, ← f1, List.map_map]; rfl
        have f4 : (kvs.map fun p => keyD p.1) = a := by rw [k2, ← f1, List.map_map]; rfl
        rw [hK]
        refine ⟨c, c2, kvs, by rw [ev, ev2], by rw [f3]; exact hs' _ _ _ .refl, by rw [f2]; exact hs2 _ _ _ .refl, fun q hq => ?_⟩
        have rs2' : Reps S H1 B1 Γ1 (kvs.map (·.2)) b := by rw [f2]; exact rs2
        obtain ⟨m1, m2⟩ := merge_rep (kvs := []) (ks := []) (es := []) rs2' rfl .nil
        rw [f4] at m1 m2
        obtain ⟨x1, x2⟩ := new_dic ce1.ok hq m1 m2
        subst he
        exact h3 _ B1 Γ1 (ce1.same (same_laid hq)) (Same.step (same_laid hq)) _ x1 fun _ => s1.seqF x2
/-! ### d.get(k, x) -/
theorem eok_get (hu : X.A.units + 1 < cLine) {o e f : Ex} {po pe pf : Expr} {apos cpos : Pos} (ho : PE X po (tD S H0 W C o)) (he : PE X pe (tD S H0 W C e)) (hf : PE X pf (tD S H0 W C f)) (m : M2 X po "get" apos pe pf cpos) :
    PE X (.Call (.Attribute po "get" apos) [pe, pf] [] cpos) (tD S H0 W C (.meth .get o [e, f])) := by
  refine (pe_dget2 hu ho he hf m).imp fun σ H Q ⟨env, g, B, Γ, sl, ce, hh⟩ => ?_
  have hh : Out S σ W H B Γ ((evE C o env g).bind fun x g => if mtyp .get x then (evEs C [e, f] env g).bind fun ds g => .of (bi .get (x :: ds)) g else .no) _ := hh
  refine tD_bind sl ce hh fun d g1 H1 B1 Γ1 v sl1 ce1 s1 r1 _ h1 => ?_
  cases hm : mtyp .get d with
  | false => rw [hm] at h1; exact h1.elim
  | true =>
    rw [hm] at h1
    cases r1 with
    | @dic a kvs ks ws hx nb hk rs =>
      refine ⟨a, rfl, .inl ⟨kvs, .inl hx⟩, ?_⟩
      have h1 : Out S σ W H1 B1 Γ1 (((evE C e env g1).bind fun d g => ((evE C f env g).bind fun d2 g => R.ok [d2] g).bind fun ds g => .ok (d :: ds) g).bind fun ds g => .of (bi .get (D.dic ks ws :: ds)) g) _ := h1
      have eqR : (((evE C e env g1).bind fun d g => ((evE C f env g).bind fun d2 g => R.ok [d2] g).bind fun ds g => .ok (d :: ds) g).bind fun ds g => R.of (bi .get (D.dic ks ws :: ds)) g) = (evE C e env g1).bind fun d1 g => (evE C f env g).bind fun d2 g => R.of (bi .get [D.dic ks ws, d1, d2]) g := by
        cases evE C e env g1 with
        | ok d1 g2 =>
          show (((((evE C f env g2).bind fun d2 g => R.ok [d2] g).bind fun ds g => .ok (d1 :: ds) g)).bind fun ds g => R.of (bi .get (D.dic ks ws :: ds)) g) = ((evE C f env g2).bind fun d2 g => R.of (bi .get [D.dic ks ws, d1, d2]) g)
          cases evE C f env g2 <;> rfl
        | exc c p g2 => rfl
        | no => rfl
      rw [eqR] at h1
      refine tD_bind sl1 ce1 h1 fun d1 g2 H2 B2 Γ2 v1 sl2 ce2 s2 r2 _ h2 => ?_
      refine tD_bind sl2 ce2 h2 fun d2 g3 H3 B3 Γ3 v2 sl3 ce3 s3 r3 _ h3 => ?_
      obtain ⟨r, er, h4⟩ := h3.of
      have er : (if keyOk d1 then some ((dlook d1 ks ws).getD d2) else none) = some r := er
      obtain ⟨k1, k2⟩ := ite_some er
      subst k2
      have rd : Rep S H1 B1 Γ1 (.ref a) (.dic ks ws) := .dic hx nb hk rs
      have rd3 := (rd.step ce1.ok s2).step ce2.ok s3
      cases rd3 with
      | @dic _ kvs3 _ _ hx3 nb3 hk3 rs3 =>
        obtain ⟨k, ek, ed⟩ := key_of_rep r2 k1
        subst ek ed
        subst hk3
        refine ⟨valV kvs3 k, DGet.k hx3, ?_⟩
        refine h4 H3 B3 Γ3 ce3 .refl _ ?_ fun z => nomatch z
        rcases valV_look k rs3 with ⟨v, d, e1, e2, e3⟩ | ⟨e1, e2⟩
        · rw [e1, e2]; exact e3
        · rw [e1, e2]; exact r3
    | _ => cases hm
end
end Rz

/-! RzZ3 -/
set_option Elab.async false
set_option linter.all false
set_option maxRecDepth 100000
set_option maxHeartbeats 4000000
namespace Rz
open PySem PySem.Spec PyProof.Rows L2
/-! ### in, not in -/
section
variable {X : Cx}
theorem OpR.or {f : Value → Value → Sem Value} {r1 r2 : R2} (h1 : OpR X f r1) (h2 : OpR X f r2) : OpR X f (fun x y H Q => r1 x y H Q ∨ r2 x y H Q) := by
  intro pins s σ H x y v u Q I rx ry h
  rcases h with h | h
  · exact h1 pins s σ H x y v u Q I rx ry h
  · exact h2 pins s σ H x y v u Q I rx ry h
def rDIn : R2 := fun x y H Q => ∃ a o, y = .ref a ∧ DGet H a x o ∧ Q (.bl o.isSome) H
def rDNotIn : R2 := fun x y H Q => ∃ a o, y = .ref a ∧ DGet H a x o ∧ Q (.bl (!o.isSome)) H
theorem op_inDic (hu : X.A.units + 1 < cLine) : OpR X (compareOp .In) rDIn := by
  intro pins s σ H x y v u Q I rx ry h
  obtain ⟨a, o, rfl, g, q⟩ := h
  cases (show u = Value.ref a from ry)
  exact d_in hu I g rx fun s' I' => ⟨.bl o.isSome, H, I', rfl, q⟩
theorem op_notInDic (hu : X.A.units + 1 < cLine) : OpR X (compareOp .NotIn) rDNotIn := by
  intro pins s σ H x y v u Q I rx ry h
  obtain ⟨a, o, rfl, g, q⟩ := h
  cases (show u = Value.ref a from ry)
  exact d_notIn hu I g rx fun s' I' => ⟨.bl (!o.isSome), H, I', rfl, q⟩
def rInE (K : PySem.W.Frag) : R2 := fun x y H Q => ∃ d ds, Dp K H x d ∧ Dp K H y (.list ds) ∧ d.depth ≤ 60 ∧ SeqAt.shaped d = true ∧ SeqAt.shaped (.list ds) = true ∧ Q (.bl (ds.any fun z => PyData.eqv z d)) H
def rNotInE (K : PySem.W.Frag) : R2 := fun x y H Q => ∃ d ds, Dp K H x d ∧ Dp K H y (.list ds) ∧ d.depth ≤ 60 ∧ SeqAt.shaped d = true ∧ SeqAt.shaped (.list ds) = true ∧ Q (.bl (!ds.any fun z => PyData.eqv z d)) H
theorem op_inE (hu : X.A.units + 64 < cLine) : OpR X (compareOp .In) (rInE X.K) := by
  intro pins s σ H x y v u Q I rx ry h
  obtain ⟨d, ds, hd, he, dp, sd, se, q⟩ := h
  obtain ⟨as, r1⟩ := Dp.reads I d x v hd rx
  obtain ⟨bs, r2⟩ := Dp.reads I (.list ds) y u he ry
  exact SeqAt.in_list_reads r2 r1 (SeqAt.canLay_of_shaped se) (SeqAt.canLay_of_shaped sd) (by omega) ⟨.bl _, H, I, rfl, q⟩
theorem op_notInE (hu : X.A.units + 64 < cLine) : OpR X (compareOp .NotIn) (rNotInE X.K) := by
  intro pins s σ H x y v u Q I rx ry h
  obtain ⟨d, ds, hd, he, dp, sd, se, q⟩ := h
  obtain ⟨as, r1⟩ := Dp.reads I d x v hd rx
  obtain ⟨bs, r2⟩ := Dp.reads I (.list ds) y u he ry
  exact SeqAt.notIn_list_reads r2 r1 (SeqAt.canLay_of_shaped se) (SeqAt.canLay_of_shaped sd) (by omega) ⟨.bl _, H, I, rfl, q⟩
def rInR (K : PySem.W.Frag) : R2 := fun x y H Q => rIn K false x y H Q ∨ (rInE K x y H Q ∨ rDIn x y H Q)
def rNotInR (K : PySem.W.Frag) : R2 := fun x y H Q => rIn K true x y H Q ∨ (rNotInE K x y H Q ∨ rDNotIn x y H Q)
theorem op_inR (hu : X.A.units + 64 < cLine) : OpR X (compareOp .In) (rInR X.K) := OpR.or op_in_seq (OpR.or (op_inE hu) (op_inDic (by omega)))
theorem op_notInR (hu : X.A.units + 64 < cLine) : OpR X (compareOp .NotIn) (rNotInR X.K) := OpR.or op_notIn_seq (OpR.or (op_notInE hu) (op_notInDic (by omega)))
end
section
variable {S : Inf} {H : Hp} {B : Bad} {Γ : List Addr}
theorem flat_rep {v : V} {d : D} (r : Rep S H B Γ v d) (h : flatD d = true) : flatV v = true := by
  cases r <;> first | rfl | cases h
theorem flat_eqv {v1 v2 : V} {d1 d2 : D} (r1 : Rep S H B Γ v1 d1) (r2 : Rep S H B Γ v2 d2) (h1 : flatD d1 = true) (h2 : flatD d2 = true) : eqV v1 v2 = D.eqv d1 d2 := by
  cases r1 <;> cases r2 <;> first | rfl | cases h1 | cases h2 | skip
  rename_i a b
  show (sOf a == sOf b) = (a == b)
  by_cases e : a = b
  · subst e; simp
  · have : ¬ sOf a = sOf b := fun z => e (by rw [← cps_sOf a, z, cps_sOf])
    rw [beq_false_of_ne e, beq_false_of_ne this]
theorem flat_reps : ∀ {vs : List V} {ds : List D}, Reps S H B Γ vs ds → ds.all flatD = true → vs.all flatV = true
  | _, _, .nil, _ => rfl
  | _, _, .cons r t, h => by
    rw [List.all_cons, Bool.and_eq_true] at h
    rw [List.all_cons, flat_rep r h.1, flat_reps t h.2]; rfl
theorem any_reps {v : V} {d : D} (r : Rep S H B Γ v d) (hd : flatD d = true) : ∀ {vs : List V} {ds : List D}, Reps S H B Γ vs ds → ds.all flatD = true → inV v vs = anyEq ds d
  | _, _, .nil, _ => rfl
  | _, _, .cons q t, h => by
    rw [List.all_cons, Bool.and_eq_true] at h
    have ih := any_reps r hd t h.2
    show (eqV _ v || inV v _) = (D.eqv _ d || anyEq _ d)
    rw [flat_eqv q r h.1 hd, ih]
theorem shps_mem : ∀ (n : Nat) (ds : List D), D.shps n ds = true → ∀ d ∈ ds, D.shp n d = true
  | n, [], _, d, h => (List.not_mem_nil h).elim
  | n, e :: ds, hs, d, h => by
    have hs : (D.shp n e && D.shps n ds) = true := by cases n <;> exact hs
    rw [Bool.and_eq_true] at hs
    rcases List.mem_cons.mp h with rfl | h
    · exact hs.1
    · exact shps_mem n ds hs.2 d h
mutual
theorem shp_up : ∀ {n : Nat} {d : D}, D.shp n d = true → D.shp (n + 1) d = true
  | n, .non, _ => rfl
  | n, .bl _, _ => rfl
  | n, .int _, _ => rfl
  | n, .str s, h => by cases n <;> exact h
  | 0, .tup _, h => by cases h
  | 0, .lst _, h => by cases h
  | n + 1, .tup ds, h => shps_up (n := n) (ds := ds) h
  | n + 1, .lst ds, h => shps_up (n := n) (ds := ds) h
  | n, .dic _ _, h => by cases n <;> cases h
  | n, .fn _, h => by cases n <;> cases h
  | n, .mref _, h => by cases n <;> cases h
  | n, .scr _, h => by cases n <;> cases h
theorem shps_up : ∀ {n : Nat} {ds : List D}, D.shps n ds = true → D.shps (n + 1) ds = true
  | n, [], _ => rfl
  | n, d :: ds, h => by
    have h : (D.shp n d && D.shps n ds) = true := by cases n <;> exact h
    rw [Bool.and_eq_true] at h
    show (D.shp (n + 1) d && D.shps (n + 1) ds) = true
    rw [shp_up h.1, shps_up h.2]; rfl
end
theorem any_toPD {x : D} (hx : D.shp 60 x = true) : ∀ {ds : List D}, (∀ d ∈ ds, D.shp 59 d = true ∨ D.shp 60 d = true) → (toPDs ds).any (fun z => PyData.eqv z (toPD x)) = anyEq ds x
  | [], _ => rfl
  | d :: ds, h => by
    have hd : D.shp 60 d = true := (h d (List.mem_cons_self ..)).elim (fun z => shp_up z) id
    show (PyData.eqv (toPD d) (toPD x) || (toPDs ds).any fun z => PyData.eqv z (toPD x)) = (D.eqv d x || anyEq ds x)
    rw [toPD_eqv 60 d x hd hx, any_toPD hx fun e he => h e (List.mem_cons_of_mem _ he)]
theorem dic_get {a : Addr} {v : V} {x : D} {kvs : List (Key × V)} {ks : List D} (r : Rep S H B Γ v x) (hx : keyOk x = true) (h : H a = some (.dK kvs)) (hk : kvs.map (fun p => keyD p.1) = ks) : ∃ o, DGet H a v o ∧ o.isSome = dhas x ks := by
  obtain ⟨k, rfl, rfl⟩ := key_of_rep r hx
  subst hk
  refine ⟨_, DGet.k h, ?_⟩
  rw [dhas_key]
  unfold valV
  rw [Option.isSome_map]
  refine Bool.eq_iff_iff.mpr ?_
  rw [List.find?_isSome, List.any_eq_true]
theorem ro_in : RO S (rInR S.K) (op2 .isin) := by
  intro H B Γ v1 v2 d1 d2 d Q ok r1 r2 e k
  cases r2 with
  | @tup a vs ds sq rs =>
    obtain ⟨hm, rfl⟩ := ite_some e
    rw [Bool.and_eq_true] at hm
    refine .inl ⟨a, vs, rfl, .inr sq, flat_rep r1 hm.1, flat_reps rs hm.2, ?_⟩
    rw [if_neg Bool.false_ne_true, any_reps r1 hm.1 rs hm.2]
    exact k _ H (L2.Same.refl H) (.bl _) trivial
  | @lst a vs ds ha nb rs =>
    obtain ⟨hm, rfl⟩ := ite_some e
    obtain ⟨s1, s2⟩ := shp2_ok hm
    refine .inr (.inl ⟨toPD d1, toPDs ds, r1.dp 60 s1, (Rep.lst ha nb rs).dp 60 s2, (toPD_depth 60 d1 s1).1, toPD_shaped s1, toPD_shaped s2, ?_⟩)
    rw [any_toPD s1 fun d hd => .inl (shps_mem 59 ds s2 d hd)]
    exact k _ H (L2.Same.refl H) (.bl _) trivial
  | @dic a kvs ks ws ha nb hk rs =>
    obtain ⟨hm, rfl⟩ := ite_some e
    obtain ⟨o, g, ho⟩ := dic_get r1 hm ha hk
    refine .inr (.inr ⟨a, o, rfl, g, ?_⟩)
    rw [ho]
    exact k _ H (L2.Same.refl H) (.bl _) trivial
  | _ => cases e
theorem ro_notin : RO S (rNotInR S.K) (op2 .notin) := by
  intro H B Γ v1 v2 d1 d2 d Q ok r1 r2 e k
  cases r2 with
  | @tup a vs ds sq rs =>
    obtain ⟨hm, rfl⟩ := ite_some e
    rw [Bool.and_eq_true] at hm
    refine .inl ⟨a, vs, rfl, .inr sq, flat_rep r1 hm.1, flat_reps rs hm.2, ?_⟩
    rw [if_pos rfl, any_reps r1 hm.1 rs hm.2]
    exact k _ H (L2.Same.refl H) (.bl _) trivial
  | @lst a vs ds ha nb rs =>
    obtain ⟨hm, rfl⟩ := ite_some e
    obtain ⟨s1, s2⟩ := shp2_ok hm
    refine .inr (.inl ⟨toPD d1, toPDs ds, r1.dp 60 s1, (Rep.lst ha nb rs).dp 60 s2, (toPD_depth 60 d1 s1).1, toPD_shaped s1, toPD_shaped s2, ?_⟩)
    rw [any_toPD s1 fun d hd => .inl (shps_mem 59 ds s2 d hd)]
    exact k _ H (L2.Same.refl H) (.bl _) trivial
  | @dic a kvs ks ws ha nb hk rs =>
    obtain ⟨hm, rfl⟩ := ite_some e
    obtain ⟨o, g, ho⟩ := dic_get r1 hm ha hk
    refine .inr (.inr ⟨a, o, rfl, g, ?_⟩)
    rw [ho]
    exact k _ H (L2.Same.refl H) (.bl _) trivial
  | _ => cases e
end
/-! ### by index, by key -/
section
variable {S : Inf} {H0 : Hp} {W : WX} {C : Nat → List D → Gs → R D} {X : Cx}
def rIxDic : R2 := fun x y H Q => ∃ a v, x = .ref a ∧ DGet H a y (some v) ∧ Q v H
theorem ix_dic (hu : X.A.units + 1 < cLine) : IxR X rIxDic := by
  intro value slice pins s σ H x y v u Q I rx ry h hs
  obtain ⟨a, w, rfl, g, q⟩ := h
  obtain rfl : v = Value.ref a := rx
  have hT := dict_typeIs I g
  unfold subscriptTail
  refine wpAny_bind ?_
  rw [getitemInPython_of_ne hT.not_modules]
  refine wpAny_bind (wpAny_specialOf hT PySem.F.slot_dict_getitem.lookup ?_)
  have fin : wpAny (model X.prog X.w) X.A (subscripted slice false (.ref a) u) (fun r s₃ => wpAny (model X.prog X.w) X.A (letTemporaryGo value (.ref a) r >>= fun _ => pure r) (EP X pins σ Q) X.xe s₃) X.xe s := by
    rw [hs]
    exact wpAny_operating (wpAny_mono (d_getItem (Q := EP X pins σ Q) hu I g ry fun w' s' I' rw' => ⟨w, H, I', rw', q⟩) (fun r s₃ h₃ => wpAny_bind (wpAny_letTemporaryGo (wpAny_pure h₃))) fun _ _ x => x)
  first
    | exact wpAny_pure (wpAny_bind fin)
    | exact wpAny_bind (wpAny_pure (wpAny_bind fin))
    | exact wpAny_bind fin
/-- a[i] of a list, a tuple, a text, a cell -/
theorem eok_ix (hK : X.K = S.K) (hu : X.A.units + 1 < cLine) {ea ei : Ex} {a b : Expr} {pos : Pos} (ha : PE X a (tD S H0 W C ea)) (hb : PE X b (tD S H0 W C ei)) (hs : PlainIx b) : PE X (.Subscript a b pos) (tD S H0 W C (.ix ea ei)) := by
  refine (pe_ix (IxR.or ix_seq (ix_dic hu)) ha hb hs).imp fun σ H Q ⟨env, g, B, Γ, sl, ce, h⟩ => ?_
  refine tD_bind sl ce h fun d1 g1 H1 B1 Γ1 v1 sl1 ce1 s1 r1 _ h1 => ?_
  refine tD_bind sl1 ce1 h1 fun d2 g2 H2 B2 Γ2 v2 sl2 ce2 s2 r2 _ h2 => ?_
  obtain ⟨d, e, h3⟩ := h2.of
  have r1' := r1.step ce1.ok s2
  have fin : ∀ v, Rep S H2 B2 Γ2 v d → Q v H2 := fun v r => h3 H2 B2 Γ2 ce2 .refl v r fun z => nomatch z
  rw [hK]
  cases r2 with
  | int k =>
    cases r1' with
    | tup hx q1 =>
      have e : atI _ k = some d := e
      obtain ⟨v, ev, rv⟩ := reps_atI q1 e
      exact .inl (.inr (.inl ⟨_, _, k, v, rfl, rfl, hx, ev, fin v rv⟩))
    | lst hx nb q1 =>
      have e : atI _ k = some d := e
      obtain ⟨v, ev, rv⟩ := reps_atI q1 e
      exact .inl (.inl ⟨_, _, k, v, rfl, rfl, SqL.of hx, ev, fin v rv⟩)
    | scr hx q1 =>
      have e : atI _ k = some d := e
      obtain ⟨v, ev, rv⟩ := reps_atI q1 e
      exact .inl (.inl ⟨_, _, k, v, rfl, rfl, hx.seq, ev, fin v rv⟩)
    | @mref n a hx =>
      have e : (match g2[n]? with | some ds => atI ds k | none => none) = some d := e
      cases eg : g2[n]? with
      | none => rw [eg] at e; cases e
      | some ds =>
        rw [eg] at e
        obtain ⟨a', vs, ea, eh, q1⟩ := ce2.at_ n ds eg
        rw [hx] at ea
        cases ea
        obtain ⟨v, ev, rv⟩ := reps_atI q1 e
        exact .inl (.inl ⟨_, _, k, v, rfl, rfl, SqL.of eh, ev, fin v rv⟩)
    | dic hx nb hk q1 =>
      have e : dlook (.int k) _ _ = some d := e
      subst hk
      rcases valV_look (.inl k) q1 with ⟨v, d', e1, e2, rv⟩ | ⟨_, e2⟩
      · have e2 : dlook (.int k) _ _ = some d' := e2
        rw [e] at e2; injection e2 with e2; subst e2
        refine .inr ⟨_, v, rfl, ?_, fin v rv⟩
        have := DGet.k (k := .inl k) hx
        rw [e1] at this; exact this
      · have e2 : dlook (.int k) _ _ = none := e2
        rw [e] at e2; cases e2
    | str l =>
      have e : (if Nat.ble l.length lineN = true then (atI l k).map fun c => D.str [c] else none) = some d := e
      by_cases hl : Nat.ble l.length lineN = true
      · rw [if_pos hl] at e
        cases ea : atI l k with
        | none => rw [ea] at e; cases e
        | some c =>
          rw [ea] at e
          have e : D.str [c] = d := Option.some.inj e
          subst e
          refine .inl (.inr (.inr ⟨_, k, c, rfl, rfl, ?_, ?_, fin _ (.str [c])⟩))
          · rw [sOf_len]; exact Nat.le_trans (Nat.le_of_ble_eq_true hl) lineN_le
          · rw [sOf_list]; exact ea
      · rw [if_neg hl] at e; cases e
    | _ => cases e
  | str l =>
    cases r1' with
    | dic hx nb hk q1 =>
      have e : dlook (.str l) _ _ = some d := e
      subst hk
      have kl : keyD (.inr (sOf l)) = .str l := by show D.str _ = _; rw [cps_sOf]
      rcases valV_look (.inr (sOf l)) q1 with ⟨v, d', e1, e2, rv⟩ | ⟨_, e2⟩
      · rw [kl, e] at e2; injection e2 with e2; subst e2
        refine .inr ⟨_, v, rfl, ?_, fin v rv⟩
        have := DGet.k (k := .inr (sOf l)) hx
        rw [e1] at this; exact this
      · rw [kl, e] at e2; cases e2
    | _ => cases e
  | _ => cases r1' <;> cases e


/-- a[::-1] of a list -/
theorem eok_sl_rev (hK : X.K = S.K) {ea : Ex} {a : Expr} {k : Nat} {p1 p2 p3 pos : Pos} (ha : PE X a (tD S H0 W C ea)) : PE X (.Subscript a (.Slice none none (some (.UnaryOp .USub (.Constant (.int 1) k p1) p2)) p3) pos) (tD S H0 W C (.sl .rev ea [])) := by
  refine (pe_revA ha).imp fun σ H Q ⟨env, g, B, Γ, sl, ce, h⟩ => ?_
  refine tD_bind sl ce h fun d1 g1 H1 B1 Γ1 v1 sl1 ce1 s1 r1 _ h1 => ?_
  have h2 : Out S σ W H1 B1 Γ1 (R.of (slD .rev d1 []) g1) _ := h1
  obtain ⟨d, e, h3⟩ := h2.of
  cases r1 with
  | lst hx nb q1 =>
    have e : some (D.lst _) = some d := e
    injection e with e; subst e
    rw [hK]
    refine .inl ⟨_, _, rfl, SqL.of hx, fun p hp => ?_⟩
    obtain ⟨x1, x2⟩ := new_lst ce1.ok hp q1.reverse
    exact h3 _ B1 Γ1 (ce1.same (same_laid hp)) (Same.step (same_laid hp)) _ x1 fun _ => s1.seqF x2
  | tup hx q1 =>
    obtain ⟨hl, e⟩ := ite_some (show (if Nat.ble _ lineN = true then some (D.tup _) else none) = some d from e)
    subst e
    have hl := Nat.le_of_ble_eq_true hl
    rw [hK]
    refine .inr ⟨_, _, rfl, hx, by rw [q1.length]; exact Nat.le_trans hl lineN_le, fun p hp => ?_⟩
    exact h3 _ B1 Γ1 (ce1.same (same_laid hp)) (Same.step (same_laid hp)) _ (new_tup ce1.ok hp q1.reverse) fun _ => trivial
  | _ => cases e
def vRev : Expr → Bool
  | .Slice none none (some (.UnaryOp .USub (.Constant (.int i) _ _) _)) _ => decide (i = 1)
  | _ => false
theorem vRev_ok {e : Expr} (h : vRev e = true) : ∃ k p1 p2 p3, e = .Slice none none (some (.UnaryOp .USub (.Constant (.int 1) k p1) p2)) p3 := by
  unfold vRev at h
  split at h
  · rename_i i k p1 p2 p3
    have := of_decide_eq_true h
    subst this
    exact ⟨_, _, _, _, rfl⟩
  · cases h
end
/-! ### comparisons -/
def cmpOf : Op → Option CmpOp
  | .eq => some .Eq
  | .ne => some .NotEq
  | .lt => some .Lt
  | .le => some .LtE
  | .gt => some .Gt
  | .ge => some .GtE
  | .is_ => some .Is
  | .isnt => some .IsNot
  | .isin => some .In
  | .notin => some .NotIn
  | _ => none
theorem cmp_ok {S : Inf} {X : Cx} {n : Nat} (i : In S X) (hr : Room n X.A) {o : Op} {p : CmpOp} (h : cmpOf o = some p) : ∃ r, OpR X (compareOp p) r ∧ RO S r (op2 o) := by
  cases o with
  | eq => cases h; exact ⟨_, op_eqD hr.units, by rw [i.K]; exact ro_eq⟩
  | ne => cases h; exact ⟨_, op_neD hr.units, by rw [i.K]; exact ro_ne⟩
  | lt => cases h; exact ⟨_, op_lt, ro_lt⟩
  | le => cases h; exact ⟨_, op_le, ro_le⟩
  | gt => cases h; exact ⟨_, op_gt, ro_gt⟩
  | ge => cases h; exact ⟨_, op_ge, ro_ge⟩
  | is_ => cases h; exact ⟨_, op_isN, ro_is⟩
  | isnt => cases h; exact ⟨_, op_notN, ro_isnt⟩
  | isin => cases h; exact ⟨_, op_inR hr.units, by rw [i.K]; exact ro_in⟩
  | notin => cases h; exact ⟨_, op_notInR hr.units, by rw [i.K]; exact ro_notin⟩
  | _ => cases h
theorem cmp_notF {T : Nat → Option Fn} {o : Op} {p : CmpOp} {a b : Ex} (h : cmpOf o = some p) : isF T (.op o a b) = false := by
  cases o <;> first | rfl | cases h
end Rz

/-! RzZ4 -/
set_option Elab.async false
set_option linter.all false
set_option maxRecDepth 100000
set_option maxHeartbeats 4000000
namespace Rz
open PySem PySem.Spec PyProof.Rows L2
/-! ### {k: v, ..} -/
def flatP : List (Ex × Ex) → List Ex
  | [] => []
  | p :: r => p.1 :: p.2 :: flatP r
def flatW : List (V × V) → List V
  | [] => []
  | p :: r => p.1 :: p.2 :: flatW r
theorem bind_assoc {α β γ : Type} (x : R α) (f : α → Gs → R β) (h : β → Gs → R γ) : (x.bind f).bind h = x.bind fun a g => (f a g).bind h := by cases x <;> rfl
section
variable {S : Inf} {H0 : Hp} {W : WX} {C : Nat → List D → Gs → R D} {X : Cx}
theorem pairs_run : ∀ (prs : List (Ex × Ex)) {σ : L2.St} {H : Hp} {env : Env} {g : Gs} {B : Bad} {Γ : List Addr} {P : List D → Gs → Hp → Bad → List Addr → Prop} {K : List (V × V) → Hp → Prop},
    Slots S H B Γ H0 σ env → Cells S H g B Γ → Out S σ W H B Γ (evEs C (flatP prs) env g) P →
    (∀ ds g1 H1 B1 Γ1 ps, Cells S H1 g1 B1 Γ1 → Step H B Γ H1 B1 Γ1 → Reps S H1 B1 Γ1 (flatW ps) ds → P ds g1 H1 B1 Γ1 → K ps H1) →
    tPairs (prs.map fun p => (tD S H0 W C p.1, tD S H0 W C p.2)) σ H K
  | [], σ, H, env, g, B, Γ, P, K, sl, ce, h, k => k [] g H B Γ [] ce .refl .nil (h H B Γ ce .refl)
  | (a, b) :: r, σ, H, env, g, B, Γ, P, K, sl, ce, h, k => by
    show tD S H0 W C a σ H fun x H1 => tD S H0 W C b σ H1 fun y H2 => tPairs _ σ H2 fun ps H3 => K ((x, y) :: ps) H3
    have h : Out S σ W H B Γ ((evE C a env g).bind fun d1 g1 => ((evE C b env g1).bind fun d2 g2 => (evEs C (flatP r) env g2).bind fun ds g3 => R.ok (d2 :: ds) g3).bind fun ds g => R.ok (d1 :: ds) g) P := h
    refine tD_bind sl ce h fun d1 g1 H1 B1 Γ1 v1 sl1 ce1 s1 r1 _ h1 => ?_
    rw [bind_assoc] at h1
    refine tD_bind sl1 ce1 h1 fun d2 g2 H2 B2 Γ2 v2 sl2 ce2 s2 r2 _ h2 => ?_
    rw [bind_assoc] at h2
    refine pairs_run r sl2 ce2 h2.bind fun ds g3 H3 B3 Γ3 ps ce3 s3 rs h3 => ?_
    have h3 : Out S σ W H3 B3 Γ3 (R.ok (d1 :: d2 :: ds) g3) P := h3
    exact k (d1 :: d2 :: ds) g3 H3 B3 Γ3 ((v1, v2) :: ps) ce3 (s1.trans (s2.trans s3)) (.cons (r1.step ce1.ok (s2.trans s3)) (.cons (r2.step ce2.ok s3) rs)) (h3 H3 B3 Γ3 ce3 .refl)
theorem pairs_kv {H : Hp} {B : Bad} {Γ : List Addr} : ∀ {ps : List (V × V)} {ds : List D}, Reps S H B Γ (flatW ps) ds → (dsplit ds).1.all keyOk = true →
    ∃ kvs : List (Key × V), ps = kvs.map (fun kv => (kV kv.1, kv.2)) ∧ (dsplit ds).1 = kvs.map (fun p => keyD p.1) ∧ Reps S H B Γ (kvs.map (·.2)) (dsplit ds).2
  | [], ds, r, _ => by
    cases r
    exact ⟨[], rfl, rfl, .nil⟩
  | (x, y) :: ps, ds, r, h => by
    have r : Reps S H B Γ (x :: y :: flatW ps) ds := r
    cases r with
    | @cons _ _ d1 ds r1 t =>
      cases t with
      | @cons _ _ d2 ds r2 t =>
        have h : (keyOk d1 && (dsplit ds).1.all keyOk) = true := h
        rw [Bool.and_eq_true] at h
        obtain ⟨kvs, e1, e2, e3⟩ := pairs_kv t h.2
        obtain ⟨k, rfl, rfl⟩ := key_of_rep r1 h.1
        exact ⟨(k, y) :: kvs, by rw [e1]; rfl, by show keyD k :: (dsplit ds).1 = _; rw [e2]; rfl, .cons r2 e3⟩
theorem eok_disp (hK : X.K = S.K) {ys : List Ex} {prs : List (Ex × Ex)} {keys : List (Option Expr)} {values : List Expr} {pos : Pos} (hP : PPs X pos keys values (prs.map fun p => (tD S H0 W C p.1, tD S H0 W C p.2))) (hall : keys.all (·.isSome) = true) (hl : keys.length = values.length) (h0 : keys ≠ []) (h15 : keys.length ≤ 15) :
    PE X (.Dict keys values pos) (tD S H0 W C (.dic (flatP prs) ys)) := by
  refine (pe_disp hP hall hl h0 h15).imp fun σ H Q ⟨env, g, B, Γ, sl, ce, h⟩ p hp => ?_
  have sm := same_laid (o := .dK []) hp
  have st : Step H B Γ (upd H p (.dK [])) (fun b => B b ∨ b = p) Γ := (Same.step sm).grow (fun _ q => .inl q) fun a q => q.elim .inl fun z => .inr (by rw [z]; exact hp)
  have np : p ∉ Γ := fun z => ce.ok.live (ce.ok.cell _ z) hp
  have ce' : Cells S (upd H p (.dK [])) g (fun b => B b ∨ b = p) Γ := (ce.same sm).bad (fun _ q => .inl q) fun a q => by
    rcases q with q | q
    · exact (ce.same sm).ok.kin a q
    · rw [q]; exact .inr ⟨[], upd_same⟩
  have h : Out S σ W H B Γ ((evEs C (flatP prs) env g).bind fun ds g1 => if (dsplit ds).1.all keyOk && Nat.ble (dsplit ds).1.length 15 then
      R.ok (D.dic (((dsplit ds).1.zip (dsplit ds).2).foldl (fun (r : List D × List D) p => dput p.1 p.2 r.1 r.2) ([], [])).1 (((dsplit ds).1.zip (dsplit ds).2).foldl (fun (r : List D × List D) p => dput p.1 p.2 r.1 r.2) ([], [])).2) g1 else .no) _ := h
  refine pairs_run (P := fun ds g1 _ _ _ => Out S σ W H B Γ (if (dsplit ds).1.all keyOk && Nat.ble (dsplit ds).1.length 15 then
      R.ok (D.dic (((dsplit ds).1.zip (dsplit ds).2).foldl (fun (r : List D × List D) p => dput p.1 p.2 r.1 r.2) ([], [])).1 (((dsplit ds).1.zip (dsplit ds).2).foldl (fun (r : List D × List D) p => dput p.1 p.2 r.1 r.2) ([], [])).2) g1 else .no) (fun d g' H' B' Γ' => ∀ v, Rep S H' B' Γ' v d → (isF S.T (.dic (flatP prs) ys) = true → FreshAt S H H' B' Γ' v d) → Q v H')) prs (sl.step ce.ok st) ce' ?_ fun ds g1 H1 B1 Γ1 ps ce1 s1 rs h1 => ?_
  · cases e : evEs C (flatP prs) env g with
    | ok ds g1 => rw [e] at h; exact fun H1 B1 Γ1 c s => h
    | exc c p g1 => rw [e] at h; exact fun H' B' Γ' cls dd c1 s x => h H' B' Γ' cls dd c1 (st.trans s) x
    | no => rw [e] at h; exact h
  · by_cases c : ((dsplit ds).1.all keyOk && Nat.ble (dsplit ds).1.length 15) = true
    · rw [if_pos c] at h1
      rw [Bool.and_eq_true] at c
      obtain ⟨kvs, e1, e2, r2⟩ := pairs_kv rs c.1
      obtain ⟨m1, m2⟩ := merge_rep (S := S) (H := H1) (B := B1) (Γ := Γ1) (more := kvs) (kvs := []) r2 rfl .nil
      rw [← e2] at m1 m2
      have hp1 : H1 p = some (.dK []) := s1.ext _ _ upd_same np
      have bp : B1 p := s1.bsub p (.inr rfl)
      have np1 : p ∉ Γ1 := fun z => (s1.gnew p z).elim np fun e => by rw [upd_same] at e; cases e
      have c2 : Cells S (upd H1 p (.dK (mergeK [] kvs))) g1 B1 Γ1 := ce1.write np1 bp (.inr ⟨_, rfl⟩)
      have less : ∀ b, (B1 b ∧ b ≠ p) → B1 b := fun b q => q.1
      have c3 : Cells S (upd H1 p (.dK (mergeK [] kvs))) g1 (fun b => B1 b ∧ b ≠ p) Γ1 :=
        ⟨⟨fun b q => c2.ok.kin b q.1, fun b m => ⟨c2.ok.cell b m, fun z => np1 (by rw [← z]; exact m)⟩⟩, c2.len, c2.nd, c2.nl, fun n ds e => let ⟨x, vs, e1, e2, r⟩ := c2.at_ n ds e; ⟨x, vs, e1, e2, r.less less⟩⟩
      have sw := (st.trans s1).write (a := p) (o' := .dK (mergeK [] kvs)) hp
      have s3 : Step H B Γ (upd H1 p (.dK (mergeK [] kvs))) (fun b => B1 b ∧ b ≠ p) Γ1 :=
        ⟨sw.ext, fun b q => ⟨sw.bsub b q, fun z => ce.ok.live (z ▸ q) hp⟩, fun b q => sw.bnew b q.1, sw.gpre, sw.gnew, sw.live⟩
      have rr := m2.rew ce1.ok (ext_write (o' := .dK (mergeK [] kvs)) bp)
      refine ⟨hp1, kvs, e1, ?_, ?_⟩
      · have := Nat.le_of_ble_eq_true c.2
        rw [e2, List.length_map] at this
        exact this
      · exact h1 _ _ _ c3 s3 (.ref p) (.dic upd_same (fun z => z.2 rfl) m1 (rr.less less)) fun _ => ⟨p, _, rfl, hp, fun z => z.2 rfl, upd_same, m1, rr.less fun b q => q.elim (fun z => z.1) fun z => by rw [z]; exact bp⟩
    · rw [if_neg c] at h1; exact h1.elim
def chkPs (f : Ex → Expr → Bool) : List Ex → List (Option Expr) → List Expr → Bool
  | [], [], [] => true
  | a :: b :: es, some k :: ks, v :: vs => f a k && f b v && chkPs f es ks vs
  | _, _, _ => false
theorem chkPs_ok {f : Ex → Expr → Bool} {pos : Pos} (hf : ∀ e p, f e p = true → PE X p (tD S H0 W C e)) : ∀ (es : List Ex) (ks : List (Option Expr)) (vs : List Expr), chkPs f es ks vs = true →
    ∃ prs, es = flatP prs ∧ PPs X pos ks vs (prs.map fun p => (tD S H0 W C p.1, tD S H0 W C p.2)) ∧ ks.all (·.isSome) = true ∧ ks.length = vs.length
  | [], [], [], _ => ⟨[], rfl, pps_nil, rfl, rfl⟩
  | a :: b :: es, some k :: ks, v :: vs, h => by
    have h : (f a k && f b v && chkPs f es ks vs) = true := h
    rw [Bool.and_eq_true, Bool.and_eq_true] at h
    obtain ⟨prs, e, hp, h1, h2⟩ := chkPs_ok hf es ks vs h.2
    exact ⟨(a, b) :: prs, by rw [e]; rfl, pps_cons (hf _ _ h.1.1) (hf _ _ h.1.2) hp, by simpa using h1, by simp [h2]⟩
  | [], [], _ :: _, h => by cases h
  | [], _ :: _, _, h => by cases h
  | [_], _, _, h => by cases h
  | _ :: _ :: _, [], _, h => by cases h
  | _ :: _ :: _, none :: _, _, h => by cases h
  | _ :: _ :: _, some _ :: _, [], h => by cases h
def vDict : Expr → Option (List (Option Expr) × List Expr)
  | .Dict ks vs _ => some (ks, vs)
  | _ => none
theorem vDict_ok {e : Expr} {ks : List (Option Expr)} {vs : List Expr} (h : vDict e = some (ks, vs)) : ∃ pos, e = .Dict ks vs pos := by
  unfold vDict at h
  split at h
  · injection h with h; injection h with h1 h2; subst h1 h2; exact ⟨_, rfl⟩
  · cases h
end

/-! ### x[j] = e -/
def rSetDic : V → V → V → Hp → (Hp → Prop) → Prop := fun o i v H Q => ∃ a H', o = .ref a ∧ DPut H a i v H' ∧ Q H'
def rSetR : V → V → V → Hp → (Hp → Prop) → Prop := fun o i v H Q => rSetL o i v H Q ∨ rSetDic o i v H Q
theorem set_R {X : Cx} (hu : X.A.units + 1 < cLine) : PSet X rSetR := by
  intro pins s σ H o i v ov iv u Q I ro ri rv h
  rcases h with h | ⟨a, H', rfl, g, q⟩
  · exact set_list pins s σ H o i v ov iv u Q I ro ri rv h
  · cases (show ov = Value.ref a from ro)
    exact d_setItem hu I g ri rv fun s' I' => ⟨H', I', q⟩
section
variable {S : Inf} {H0 Hs H H1 : Hp} {B0 Bs B B1 : Bad} {Γ0 Γs Γ Γ1 : List Addr} {W : WX} {fr : Bool} {C : Nat → List D → Gs → R D} {X : Cx} {Z : Ends} {σ : L2.St} {env : Env} {g : Gs}
/-- x[j] = e: the value, the list, the place -/
theorem law_setx {i : Nat} {j e : Ex} (h : tS S H0 B0 Γ0 W fr C (.setx i j e) Z σ H) : tAsg (tD S H0 W C e) (gSub (tVar i) (tD S H0 W C j) rSetR) Z σ H := by
  obtain ⟨env, g, B, Γ, ok0, sl, ce, s0, h⟩ := h
  refine ⟨env, g, B, Γ, sl, ce, (OutS.to sl ce.ok s0 .refl h).imp fun d g1 H1 B1 Γ1 c1 s1 h v rv _ => ?_⟩
  have sl1 := sl.step ce.ok s1
  cases es : getS env i with
  | u => rw [es] at h; exact h.elim
  | p x =>
    rw [es] at h
    cases x with
    | mref m =>
      have q := sl1.at_ i
      rw [es] at q
      obtain ⟨w, ew, rw'⟩ := q
      refine ⟨w, ew, env, g1, B1, Γ1, sl1, c1, ?_⟩
      refine (OutS.to sl1 c1.ok (s0.trans s1) (s1.later ce.ok) h).imp fun k g2 H2 B2 Γ2 c2 s2 o kv rk _ => ?_
      cases rk with
      | int n =>
        simp only at o
        cases eg : g2[m]? with
        | none => rw [eg] at o; exact o.elim
        | some ds =>
          rw [eg] at o
          simp only at o
          cases ei : ixN ds.length n with
          | none => rw [ei] at o; exact o.elim
          | some mm =>
            rw [ei] at o
            by_cases hn : D.noL d = true
            · simp only [hn, if_true] at o
              have rw2 := rw'.step c1.ok s2
              cases rw2 with
              | mref hm =>
                rename_i a
                obtain ⟨a', vs, e1, e2, e3⟩ := c2.at_ m ds eg
                rw [hm] at e1
                cases e1
                have ba : B2 a := c2.ok.cell a (List.mem_of_getElem? hm)
                refine .inl ⟨a, vs, n, mm, rfl, rfl, e2, by rw [e3.length]; exact ei, ?_⟩
                have ext : ∀ c o, H2 c = some o → ¬ B2 c → upd H2 a (.lst (vs.set mm v)) c = some o := ext_write ba
                have na0 : ∀ b o, H0 b = some o → b ∉ Γ0 → b ≠ a := fun b o e n z => by
                  rcases (s0.trans (s1.trans s2)).gnew a (List.mem_of_getElem? hm) with y | y
                  · exact n (by rw [z]; exact y)
                  · rw [z, y] at e; cases e
                refine o σ _ B2 Γ2 ⟨sl1.len, fun jj => ?_, sl1.apart⟩ ⟨⟨fun x bx => ?_, c2.ok.cell⟩, by rw [List.length_set]; exact c2.len, c2.nd, fun nn dd ee => ?_, fun nn dd ee => ?_⟩ ?_ (((s1.trans s2).later ce.ok).trans (.write ba))
                · have q := (sl1.step c1.ok s2).at_ jj
                  cases es2 : getS env jj with
                  | u => trivial
                  | p dd =>
                    rw [es2] at q
                    obtain ⟨x, e1, r⟩ := q
                    exact ⟨x, e1, r.rew c2.ok ext⟩
                  | o dd =>
                    rw [es2] at q
                    obtain ⟨x, e1, b1, n1, z1, r1⟩ := q
                    have nx : x ≠ a := fun z => n1 (by rw [z]; exact List.mem_of_getElem? hm)
                    refine ⟨x, e1, b1, n1, z1, ?_⟩
                    cases dd with
                    | lst ds => obtain ⟨vs, q1, q2⟩ := r1; exact ⟨vs, by rw [upd_ne nx]; exact q1, q2.rew c2.ok ext⟩
                    | dic ks ws => obtain ⟨kvs, q1, q2, q3⟩ := r1; exact ⟨kvs, by rw [upd_ne nx]; exact q1, q2, q3.rew c2.ok ext⟩
                    | _ => exact r1.elim
                · by_cases z : x = a
                  · rw [z, upd_same]; exact .inl ⟨_, rfl⟩
                  · rw [upd_ne z]; exact c2.ok.kin x bx
                · rw [List.getElem?_set] at ee
                  by_cases hmn : m = nn
                  · rw [if_pos hmn] at ee
                    split at ee
                    · injection ee with ee
                      subst ee
                      exact noLs_set (c2.nl m ds eg) hn mm
                    · cases ee
                  · rw [if_neg hmn] at ee; exact c2.nl nn dd ee
                · rw [List.getElem?_set] at ee
                  by_cases hmn : m = nn
                  · rw [if_pos hmn] at ee
                    split at ee
                    · injection ee with ee
                      subst ee hmn
                      exact ⟨a, _, hm, upd_same, ((e3.set mm ((rv.step c1.ok s2))).rew c2.ok ext)⟩
                    · cases ee
                  · rw [if_neg hmn] at ee
                    obtain ⟨x, ws, f1, f2, f3⟩ := c2.at_ nn dd ee
                    have nx : x ≠ a := fun z => by
                      rw [z] at f1
                      exact hmn (nd_ix c2.nd hm f1)
                    exact ⟨x, ws, f1, by rw [upd_ne nx]; exact f2, f3.rew c2.ok ext⟩
                · have st := s0.trans (s1.trans s2)
                  refine ⟨fun b o e n => ?_, st.bsub, st.bnew, st.gpre, st.gnew, fun b n => ?_⟩
                  · rw [upd_ne (na0 b o e n)]; exact st.ext b o e n
                  · by_cases q : b = a
                    · rw [q, upd_same]; exact fun z => nomatch z
                    · rw [upd_ne q]; exact st.live b n
            · simp only [hn, if_false] at o; exact o.elim
      | _ => exact o.elim
    | _ => exact h.elim
  | o x =>
    rw [es] at h
    cases x with
    | lst ds =>
      obtain ⟨a, ea, ba, na, za, ow⟩ := own_at sl1 es
      refine ⟨.ref a, ea, env, g1, B1, Γ1, sl1, c1, ?_⟩
      refine (OutS.to sl1 c1.ok (s0.trans s1) (s1.later ce.ok) h).imp fun k g2 H2 B2 Γ2 c2 s2 o kv rk _ => ?_
      cases rk with
      | int n =>
        simp only at o
        cases ei : ixN ds.length n with
        | none => rw [ei] at o; exact o.elim
        | some m =>
          rw [ei] at o
          have sl2 := sl1.step c1.ok s2
          obtain ⟨a', ea', ba', na', za', xs1, hxs1, rx1⟩ := own_at sl2 es
          rw [ea] at ea'
          cases ea'
          refine .inl ⟨a, xs1, n, m, rfl, rfl, hxs1, by rw [rx1.length]; exact ei, ?_⟩
          exact o σ _ B2 Γ2 (sl2.write c2.ok es ea ba' ⟨_, upd_same, (rx1.set m (rv.step c1.ok s2)).rew c2.ok (ext_write ba')⟩) (c2.write na' ba' (.inl ⟨_, rfl⟩)) ((s0.trans (s1.trans s2)).write za') (((s1.trans s2).later ce.ok).trans (.write ba'))
      | _ => exact o.elim
    | dic ks ws =>
      obtain ⟨a, ea, ba, na, za, ow⟩ := own_at sl1 es
      refine ⟨.ref a, ea, env, g1, B1, Γ1, sl1, c1, ?_⟩
      refine (OutS.to sl1 c1.ok (s0.trans s1) (s1.later ce.ok) h).imp fun k g2 H2 B2 Γ2 c2 s2 o kv rk _ => ?_
      by_cases hk : (keyOk k && Nat.blt ks.length lineN) = true
      · rw [if_pos hk] at o
        rw [Bool.and_eq_true] at hk
        have hz : ks.length < lineN := Nat.le_of_ble_eq_true hk.2
        have sl2 := sl1.step c1.ok s2
        obtain ⟨a', ea', ba', na', za', kvs, e1, e2, e3⟩ := own_at sl2 es
        rw [ea] at ea'
        cases ea'
        obtain ⟨key, rfl, rfl⟩ := key_of_rep rk hk.1
        obtain ⟨p1, p2⟩ := put_rep (k := key) (rv.step c1.ok s2) e2 e3
        refine .inr ⟨a, _, rfl, DPut.k e1 (by rw [← e2, List.length_map] at hz; exact Nat.lt_of_lt_of_le hz lineN_le), ?_⟩
        exact o σ _ B2 Γ2 (sl2.write c2.ok es ea ba' ⟨_, upd_same, p1, p2.rew c2.ok (ext_write ba')⟩) (c2.write na' ba' (.inr ⟨_, rfl⟩)) ((s0.trans (s1.trans s2)).write za') (((s1.trans s2).later ce.ok).trans (.write ba'))
      · rw [if_neg hk] at o; exact o.elim
    | _ => exact h.elim
end
end Rz

/-! RzX2 -/
set_option Elab.async false
set_option linter.all false
set_option maxRecDepth 100000
set_option maxHeartbeats 4000000
namespace Rz
open PySem PySem.Spec PyProof.Rows L2

/-! ### texts: upper; not of a number -/
section
variable {S : Inf} {H0 : Hp} {W : WX} {X : Cx} {C : Nat → List D → Gs → R D}
def rUp : V → List V → Hp → VK → Prop := fun x xs H Q => ∃ a, x = .str a ∧ xs = [] ∧ a.length ≤ 5592405 ∧ Q (.str (Txt.upper a)) H
theorem upC_eq : upC = PyProof.Rows.up1 := by funext c; rfl
theorem rm_upper : RMt S "str" rUp .upper where
  ty := fun H B Γ v d r h => by
    cases r with
    | str l => rfl
    | _ => cases h
  run := fun H B Γ v vs d ds e Q ok r rs hm he k => by
    cases r with
    | str l =>
      match ds, rs, he with
      | [], rs, he =>
        cases rs
        obtain ⟨hc, rfl⟩ := ite_some (show (if ((l.all fun c => Nat.blt c 128) && Nat.ble l.length lineN) = true then some (D.str (l.map upC)) else none) = some e from he)
        rw [Bool.and_eq_true] at hc
        have hl := Nat.le_of_ble_eq_true hc.2
        have ha : (l.all fun c => decide (c < 128)) = true := by
          rw [List.all_eq_true] at hc ⊢
          intro c hc'
          exact decide_eq_true (Nat.le_of_ble_eq_true (hc.1 c hc'))
        refine ⟨_, rfl, rfl, ?_, ?_⟩
        · rw [sOf_len]
          have : lineN = 1000000 := rfl
          omega
        · have u : Txt.upper (sOf l) = sOf (l.map upC) := by rw [upC_eq]; exact SX.upper_S ha
          rw [u]
          exact k _ H (L2.Same.refl H) (.str _) trivial
      | _ :: _, rs, he => cases he
    | _ => cases hm
theorem eok_meth0 {T : String} {r : V → List V → Hp → VK → Prop} {b : Bi} {a : Ex} {pe : Expr} (h : PE X pe (tBM0 S.K T r (tD S H0 W C a))) (hr : RMt S T r b) : PE X pe (tD S H0 W C (.meth b a [])) := by
  refine h.imp fun σ H Q ⟨env, g, B, Γ, sl, ce, hh⟩ => ?_
  have hh : Out S σ W H B Γ ((evE C a env g).bind fun x g => if mtyp b x then (evEs C [] env g).bind fun ds g => .of (bi b (x :: ds)) g else .no) _ := hh
  refine tD_bind sl ce hh fun d g1 H1 B1 Γ1 v sl1 ce1 s1 r1 _ h1 => ?_
  cases hm : mtyp b d with
  | false => rw [hm] at h1; exact h1.elim
  | true =>
    rw [hm] at h1
    refine ⟨hr.ty H1 B1 Γ1 v d r1 hm, ?_⟩
    have h1 : Out S σ W H1 B1 Γ1 (R.of (bi b (d :: [])) g1) _ := h1
    obtain ⟨e, ee, h3⟩ := h1.of
    exact hr.run H1 B1 Γ1 v [] d [] e Q ce1.ok r1 .nil hm ee fun w H3 s3 r3 fr => h3 H3 B1 Γ1 (ce1.same s3) (Same.step s3) w r3 fun _ => s1.seqF fr
theorem tnot_red {ea : Ex} {σ : L2.St} {H : Hp} {B : Bad} {Γ : List Addr} {env : Env} {g : Gs} {Z : D → Gs → Hp → Bad → List Addr → Prop} (h : Out S σ W H B Γ (evE C (.bi .tnot [ea]) env g) Z) : Out S σ W H B Γ ((evE C ea env g).bind fun d g => .of (bi .tnot [d]) g) Z := by
  have h : Out S σ W H B Γ (((evE C ea env g).bind fun d g => (evEs C [] env g).bind fun ds g => .ok (d :: ds) g).bind fun ds g => .of (bi .tnot ds) g) Z := h
  cases e : evE C ea env g with
  | ok d g1 => rw [e] at h; exact h
  | exc c p g1 => rw [e] at h; exact h
  | no => rw [e] at h; exact h
theorem eok_tnot {ea : Ex} {a : Expr} {pos : Pos} (ha : PE X a (tD S H0 W C ea)) : PE X (.UnaryOp .Not a pos) (tD S H0 W C (.bi .tnot [ea])) := by
  refine (pe_notT ha).imp fun σ H Q ⟨env, g, B, Γ, sl, ce, h⟩ => ?_
  refine tD_bind sl ce (tnot_red h) fun d1 g1 H1 B1 Γ1 v1 sl1 ce1 s1 r1 _ h1 => ?_
  obtain ⟨e, ee, h3⟩ := h1.of
  cases r1 with
  | bl b =>
    have ee : some (D.bl (!b)) = some e := ee
    injection ee with ee; subst ee
    exact ⟨b, rfl, h3 H1 B1 Γ1 ce1 .refl _ (.bl _) fun z => nomatch z⟩
  | int i =>
    have ee : some (D.bl (i == 0)) = some e := ee
    injection ee with ee; subst ee
    have : (!(i != 0)) = (i == 0) := by simp [bne]
    refine ⟨i != 0, rfl, ?_⟩
    rw [this]
    exact h3 H1 B1 Γ1 ce1 .refl _ (.bl _) fun z => nomatch z
  | _ => cases ee
theorem tok_tnot {ea : Ex} {a : Expr} {pos : Pos} (ha : PE X a (tD S H0 W C ea)) (hs : simpT a = true) : PT X (.UnaryOp .Not a pos) (tDT S H0 W C (.bi .tnot [ea])) := by
  refine (pt_not (pt_truth ha (simpT_ok hs))).imp fun σ H Q ⟨env, g, B, Γ, sl, ce, h⟩ => ?_
  refine tD_bind sl ce (tnot_red h) fun d1 g1 H1 B1 Γ1 v1 sl1 ce1 s1 r1 _ h1 => ?_
  obtain ⟨e, ee, h3⟩ := h1.of
  obtain ⟨b', eb, q⟩ := h3 H1 B1 Γ1 ce1 .refl
  cases r1 with
  | bl b =>
    have ee : some (D.bl (!b)) = some e := ee
    injection ee with ee; subst ee
    injection eb with eb; subst eb
    exact ⟨b, rfl, q⟩
  | int i =>
    have ee : some (D.bl (i == 0)) = some e := ee
    injection ee with ee; subst ee
    injection eb with eb; subst eb
    have : (!(i != 0)) = (i == 0) := by simp [bne]
    refine ⟨i != 0, rfl, ?_⟩
    show Q (!(i != 0)) H1
    rw [this]; exact q
  | _ => cases ee
end
end Rz

/-! RzS15 -/
set_option Elab.async false
set_option linter.all false
set_option maxRecDepth 100000
set_option maxHeartbeats 4000000
namespace Rz
open PySem PySem.Spec PyProof.Rows L2

def gliB (sc : Scope) (x : Str) : Bool := isK sc x .globalImplicit
def chkBi (f : Ex → Expr → Bool) (sc : Scope) (b : Bi) (es : List Ex) (x : Str) (ps : List Expr) : Bool :=
  (decide (biNm b = some x) && gliB sc x && chkL f es ps && !es.isEmpty) ||
  (decide (x = ("isinstance" : Str)) && gliB sc "isinstance" && (match es, ps, tyNm b with
    | [e], [p, q], some (y, _) => decide (vName q = some y) && gliB sc y && chkL f [e] [p]
    | _, _, _ => false)) ||
  (decide (x = ("list" : Str)) && gliB sc "list" && (match b, es, ps with
    | .lrange, [e], [p] => (match vCall p with
      | some (y, [q]) => decide (y = ("range" : Str)) && gliB sc "range" && chkL f [e] [q]
      | _ => false)
    | _, _, _ => false))
def chkDz (f : Ex → Expr → Bool) (sc : Scope) (b : Bi) (es : List Ex) (x : Str) (ps : List Expr) : Bool :=
  decide (x = ("dict" : Str)) && gliB sc "dict" && (match b, es, ps with
    | .dzip, [e, e2], [p] => (match vCall p with
      | some (y, [q, q2]) => decide (y = ("zip" : Str)) && gliB sc "zip" && chkL f [e, e2] [q, q2]
      | _ => false)
    | _, _, _ => false)
def chkSl (f : Ex → Expr → Bool) : SlK → List Ex → Option Expr → Option Expr → Bool
  | .lo, [i], some p, none => f i p
  | .hi, [i], none, some p => f i p
  | .both, [i, j], some p, some q => f i p && f j q
  | _, _, _, _ => false
def chkC (f : Ex → Expr → Bool) : List Ex → List Expr → Bool
  | [], [] => true
  | [c], [p] => f c p
  | _, _ => false
def obB : Expr → Bool
  | .Name _ _ => true
  | .Constant _ _ _ => true
  | _ => false
theorem obB_ok {o : Expr} (h : obB o = true) (m : Str) (env : PySem.Env) : attributeBase o m env (eval o env) = eval o env := by
  cases o <;> first | rfl | cases h
def chkMt (f : Ex → Expr → Bool) (b : Bi) (a : Ex) (es : List Ex) (o : Expr) (m : Str) (ps : List Expr) (ln : Bool) : Bool :=
  obB o && ln && f a o && match b, es, ps with
    | .index, [e], [q] => decide (m = ("index" : Str)) && unst q && f e q
    | .get, [e, e2], [q, q2] => decide (m = ("get" : Str)) && unst q && f e q && unst q2 && f e2 q2
    | .upper, [], [] => decide (m = ("upper" : Str))
    | _, _, _ => false
def chkE (J : Tab) (N : List Str) : Nat → Scope → Option Scope → Ex → Expr → Bool
  | 0, _, _, _, _ => false
  | m + 1, sc, fs, e, pe => match vBool pe with
    | some (_, [p1], _) => chkE J N m sc fs e p1
    | _ => match e with
      | .lit d => litB d pe
      | .var i => match vName pe with
        | some x => nmB N sc i x
        | none => false
      | .glo x d => match vName pe with
        | some y => decide (y = sOf x) && gliB sc y && nmOk y && gloIn J.glo x d
        | none => false
      | .tup es => match vTup pe with
        | some ps => chkL (chkE J N m sc fs) es ps && Nat.ble es.length 1000
        | none => false
      | .lst es => match vLst pe with
        | some ps => chkL (chkE J N m sc fs) es ps && Nat.ble es.length 1000
        | none => false
      | .op o a b => match vBin pe with
        | some (pa, p, pb) => decide (binOf o = some p) && chkE J N m sc fs a pa && chkE J N m sc fs b pb
        | none => match vCmp pe with
          | some (pa, [p], [pb]) => decide (cmpOf o = some p) && chkE J N m sc fs a pa && chkE J N m sc fs b pb && noSet pb
          | _ => false
      | .neg a => match vUn pe with
        | some (.USub, pa) => chkE J N m sc fs a pa
        | _ => false
      | .not a => match vUn pe with
        | some (.Not, pa) => chkE J N m sc fs a pa
        | _ => false
      | .and_ a b => match vBool pe with
        | some (.And, pa :: pb :: rest, pos) => chkE J N m sc fs a pa && chkE J N m sc fs b (.BoolOp .And (pb :: rest) pos)
        | _ => false
      | .or_ a b => match vBool pe with
        | some (.Or, pa :: pb :: rest, pos) => chkE J N m sc fs a pa && chkE J N m sc fs b (.BoolOp .Or (pb :: rest) pos)
        | _ => false
      | .ite c a b => match vIf pe with
        | some (pc, pa, pb) => chkE J N m sc fs c pc && chkE J N m sc fs a pa && chkE J N m sc fs b pb
        | none => false
      | .chain o p a b c => match vCmp pe with
        | some (pa, [po, pp], [pb, pc]) => decide (cmpOf o = some po) && decide (cmpOf p = some pp) && chkE J N m sc fs a pa && chkE J N m sc fs b pb && chkE J N m sc fs c pc && noSet pb && noSet pc
        | _ => false
      | .call f es => match vCall pe with
        | some (x, ps) => decide (J.nam f = some (x, es.length)) && gliB sc x && nmOk x && chkL (chkE J N m sc fs) es ps
        | none => false
      | .bi b es => match vCall pe with
        | some (x, ps) => chkBi (chkE J N m sc fs) sc b es x ps || chkDz (chkE J N m sc fs) sc b es x ps
        | none => match b, es, vUn pe with
          | .tnot, [e], some (.Not, pa) => chkE J N m sc fs e pa && simpT pa
          | _, _, _ => false
      | .meth b a es => match vMth pe with
        | some (o, mn, ps, ln) => chkMt (chkE J N m sc fs) b a es o mn ps ln
        | none => false
      | .ix a i => match vSub pe with
        | some (pa, pi) => noSl pi && chkE J N m sc fs a pa && chkE J N m sc fs i pi
        | none => false
      | .sl k a es => match vSub pe with
        | some (pa, ps) => match vSlice ps with
          | some (lo, hi) => chkE J N m sc fs a pa && chkSl (chkE J N m sc fs) k es lo hi
          | none => match k, es with
            | .rev, [] => vRev ps && chkE J N m sc fs a pa
            | _, _ => false
        | none => false
      | .comp e t k es c => match vComp pe with
        | some (elt, tg, iter, ifs, scope, _) => chkE J N m (relS scope sc) (some scope) e elt && chkTg N (relS scope sc) (some scope) t tg && chkIt (chkE J N m sc fs) sc tg k es iter &&
            chkC (chkE J N m (relS scope sc) (some scope)) c ifs && blkB N sc scope t.ix && noSet iter
        | none => false
      | .fz _ e => chkE J N m sc fs e pe
      | .dic es _ => match vDict pe with
        | some (ks, vs) => !ks.isEmpty && Nat.ble ks.length 15 && chkPs (chkE J N m sc fs) es ks vs
        | none => false
      | _ => false

section
variable {S : Inf} {J : Tab} {n : Nat} {N : List Str} {H0 : Hp}
theorem Ctx.gl {sc : Scope} {fs : Option Scope} {X : Cx} {W : WX} (c : Ctx S n N sc fs X W) {x : Str} (h : gliB sc x = true) : Gl X x := by
  show X.env.scope.names.lookup x = _
  rw [c.eS]; exact isK_ok h
theorem Ctx.mgn {sc : Scope} {fs : Option Scope} {X : Cx} {W : WX} (c : Ctx S n N sc fs X W) (L : Lnk S J n) {x : Str} (h : x ∈ blts) : X.mg x = none := by
  rw [c.inn.mg]; exact L.blt x h
theorem visB_ok {sc : Scope} {x : Str} (h : visB sc x = true) : Vis sc x := by
  unfold visB at h
  rw [Bool.or_eq_true, Bool.or_eq_true] at h
  rcases h with (h | h) | h
  · exact .inl (isK_ok h)
  · exact .inr (.inl (isK_ok h))
  · exact .inr (.inr (isK_ok h))
theorem nmOk_ok {x : Str} (h : nmOk x = true) : (x == ("__debug__" : Str)) = false ∧ (x == ("__classdict__" : Str)) = false := by
  unfold nmOk at h
  rw [Bool.and_eq_true] at h
  exact ⟨by simpa using h.1, by simpa using h.2⟩
theorem sndL {W : WX} {X : Cx} {C : Nat → List D → Gs → R D} {f : Ex → Expr → Bool} (hf : ∀ e p, f e p = true → PE X p (tD S H0 W C e)) : ∀ (es : List Ex) (ps : List Expr), chkL f es ps = true → PA X ps (tDs S H0 W C es)
  | [], [], _ => aok_nil
  | [], _ :: _, h => by cases h
  | _ :: _, [], h => by cases h
  | e :: es, p :: ps, h => by
    have h : (unst p && f e p && chkL f es ps) = true := h
    rw [Bool.and_eq_true, Bool.and_eq_true] at h
    exact aok_cons (hf e p h.1.2) (sndL hf es ps h.2) (star_cons h.1.1)
mutual
theorem sndTg {sc : Scope} {fs : Option Scope} {X : Cx} {W : WX} (c : Ctx S n N sc fs X W) : ∀ (t : Tg) (p : Expr), chkTg N sc fs t p = true → PG X p (gOf S.K t)
  | .nm i, p, h => by
    unfold chkTg at h
    cases e : vName p with
    | none => rw [e] at h; cases h
    | some x =>
      rw [e] at h
      obtain ⟨q, rfl⟩ := vName_ok e
      have h : stB N sc fs i x = true := h
      unfold stB at h
      rw [Bool.and_eq_true, Bool.or_eq_true, Bool.and_eq_true] at h
      have h1 : X.N[i]? = some x := by rw [c.eN]; exact of_decide_eq_true h.1
      refine pg_name (by rw [c.eN]; exact c.nd) h1 ?_ ?_
      · rw [c.eS]; exact h.2.elim (fun z => .inl (isK_ok z)) fun z => .inr (isK_ok z.1)
      · rw [c.eS]; exact h.2.elim (fun z => .inr (isK_ok z)) fun z => .inl (c.fn x z.2)
  | .tp ts, p, h => by
    unfold chkTg at h
    cases e : vTup p with
    | none => rw [e] at h; cases h
    | some ps =>
      rw [e] at h
      obtain ⟨k, q, rfl⟩ := vTup_ok e
      have h : chkTgs N sc fs ts ps = true := h
      obtain ⟨h1, h2⟩ := chkTgs_st ts ps h
      show PG X _ (gTup S.K ts.length (gsOf S.K ts))
      rw [← c.inn.K, h2]
      rw [c.inn.K]
      have := pg_tup (k := k) (pos := q) c.calm (sndTgs c ts ps h) (assign_len h1) (assign_nost h1)
      rw [c.inn.K] at this
      exact this
theorem sndTgs {sc : Scope} {fs : Option Scope} {X : Cx} {W : WX} (c : Ctx S n N sc fs X W) : ∀ (ts : List Tg) (ps : List Expr), chkTgs N sc fs ts ps = true → PGs X ps (gsOf S.K ts)
  | [], [], _ => pgs_nil
  | [], _ :: _, h => by cases h
  | _ :: _, [], h => by cases h
  | t :: ts, p :: ps, h => by
    have h : (unst p && chkTg N sc fs t p && chkTgs N sc fs ts ps) = true := h
    rw [Bool.and_eq_true, Bool.and_eq_true] at h
    exact pgs_cons (sndTg c t p h.1.2) (sndTgs c ts ps h.2) (by rw [assign_cons h.1.1]; rfl)
theorem chkTgs_st {sc : Scope} {fs : Option Scope} : ∀ (ts : List Tg) (ps : List Expr), chkTgs N sc fs ts ps = true → ps.all unst = true ∧ ts.length = ps.length
  | [], [], _ => ⟨rfl, rfl⟩
  | [], _ :: _, h => by cases h
  | _ :: _, [], h => by cases h
  | t :: ts, p :: ps, h => by
    have h : (unst p && chkTg N sc fs t p && chkTgs N sc fs ts ps) = true := h
    rw [Bool.and_eq_true, Bool.and_eq_true] at h
    obtain ⟨h1, h2⟩ := chkTgs_st ts ps h.2
    exact ⟨by rw [List.all_cons, h.1.1, h1]; rfl, by rw [List.length_cons, List.length_cons, h2]⟩
end
theorem isTp_ok {e : Expr} (h : isTp e = true) : ∃ es k p, e = .Tuple es k p := by
  cases e with
  | Tuple es k p => exact ⟨es, k, p, rfl⟩
  | _ => cases h
theorem mem_range : ("range" : Str) ∈ blts := by decide
theorem mem_zip : ("zip" : Str) ∈ blts := by decide
theorem mem_enum : ("enumerate" : Str) ∈ blts := by decide
theorem mem_list : ("list" : Str) ∈ blts := by decide
theorem mem_isi : ("isinstance" : Str) ∈ blts := by decide
theorem sndIt {sc : Scope} {fs : Option Scope} {X : Cx} {W : WX} {C : Nat → List D → Gs → R D} (c : Ctx S n N sc fs X W) (L : Lnk S J n) {f : Ex → Expr → Bool} (hf : ∀ e p, f e p = true → PE X p (tD S H0 W C e)) {k : ItK} {es : List Ex} {tg p : Expr} (h : chkIt f sc tg k es p = true) :
    PI X tg p (tIt S H0 W C k es) := by
  unfold chkIt at h
  split at h
  · exact iok_seq c.inn.K (hf _ _ h)
  · split at h
    · rename_i x a e
      obtain ⟨q, r, rfl⟩ := vCall_ok e
      rw [Bool.and_eq_true, Bool.and_eq_true] at h
      have hx := of_decide_eq_true h.1.1
      subst hx
      obtain ⟨s1, s2⟩ := chkL_st h.2
      rw [List.all_cons, Bool.and_eq_true] at s1
      match es, h.2, s2 with
      | [e], h2, _ => exact iok_rng (c.gl h.1.2) (c.mgn L mem_range) (sndL hf _ _ h2) (star_cons s1.1)
      | [], h2, _ => cases h2
      | _ :: _ :: _, _, s2 => simp at s2
    · cases h
  · split at h
    · rename_i x a b e
      obtain ⟨q, r, rfl⟩ := vCall_ok e
      rw [Bool.and_eq_true, Bool.and_eq_true] at h
      have hx := of_decide_eq_true h.1.1
      subst hx
      obtain ⟨s1, s2⟩ := chkL_st h.2
      rw [List.all_cons, List.all_cons, Bool.and_eq_true, Bool.and_eq_true] at s1
      match es, h.2, s2 with
      | [e, e2], h2, _ => exact iok_rng2 (c.gl h.1.2) (c.mgn L mem_range) (sndL hf _ _ h2) (by rw [star_cons s1.1, star_cons s1.2.1]; rfl) (star_cons s1.2.1)
      | [], h2, _ => cases h2
      | [_], _, s2 => simp at s2
      | _ :: _ :: _ :: _, _, s2 => simp at s2
    · cases h
  · split at h
    · rename_i x a b e
      obtain ⟨q, r, rfl⟩ := vCall_ok e
      rw [Bool.and_eq_true, Bool.and_eq_true, Bool.and_eq_true] at h
      have hx := of_decide_eq_true h.1.1.1
      subst hx
      obtain ⟨es', k', p', rfl⟩ := isTp_ok h.2
      obtain ⟨s1, s2⟩ := chkL_st h.1.2
      rw [List.all_cons, List.all_cons, Bool.and_eq_true, Bool.and_eq_true] at s1
      match es, h.1.2, s2 with
      | [e, e2], h2, _ => exact iok_zip c.inn.K (c.gl h.1.1.2) (c.mgn L mem_zip) (sndL hf _ _ h2) (star_cons s1.1) (star_any (by rw [List.all_cons, s1.2.1]; rfl))
      | [], h2, _ => cases h2
      | [_], _, s2 => simp at s2
      | _ :: _ :: _ :: _, _, s2 => simp at s2
    · cases h
  · split at h
    · rename_i x a e
      obtain ⟨q, r, rfl⟩ := vCall_ok e
      rw [Bool.and_eq_true, Bool.and_eq_true, Bool.and_eq_true] at h
      have hx := of_decide_eq_true h.1.1.1
      subst hx
      obtain ⟨es', k', p', rfl⟩ := isTp_ok h.2
      obtain ⟨s1, s2⟩ := chkL_st h.1.2
      rw [List.all_cons, Bool.and_eq_true] at s1
      match es, h.1.2, s2 with
      | [e], h2, _ => exact iok_enum c.inn.K (c.gl h.1.1.2) (c.mgn L mem_enum) (sndL hf _ _ h2) (star_cons s1.1)
      | [], h2, _ => cases h2
      | _ :: _ :: _, _, s2 => simp at s2
    · cases h
  · cases h
theorem biNm_mem {b : Bi} {x : Str} (h : biNm b = some x) : x ∈ blts := by
  cases b <;> first | (cases h; decide) | cases h
theorem tyNm_mem {b : Bi} {x : Str} {T : String} (h : tyNm b = some (x, T)) : x ∈ blts := by
  cases b <;> first | (cases h; decide) | cases h
theorem sndBi {sc : Scope} {fs : Option Scope} {X : Cx} {W : WX} {C : Nat → List D → Gs → R D} (c : Ctx S n N sc fs X W) (L : Lnk S J n) {f : Ex → Expr → Bool} (hf : ∀ e p, f e p = true → PE X p (tD S H0 W C e)) {b : Bi} {es : List Ex} {x : Str} {ps : List Expr} {p pos : Pos} (h : chkBi f sc b es x ps = true) :
    PE X (.Call (.Name x p) ps [] pos) (tD S H0 W C (.bi b es)) := by
  unfold chkBi at h
  rw [Bool.or_eq_true, Bool.or_eq_true] at h
  rcases h with (h | h) | h
  · rw [Bool.and_eq_true, Bool.and_eq_true, Bool.and_eq_true] at h
    obtain ⟨⟨⟨h1, h2⟩, h3⟩, h4⟩ := h
    have h1 := of_decide_eq_true h1
    obtain ⟨s1, s2⟩ := chkL_st h3
    cases es with
    | nil => cases h4
    | cons e es =>
      cases ps with
      | nil => cases h3
      | cons q qs => exact bi_ok c.inn.K c.calm h1 (c.gl h2) (c.mgn L (biNm_mem h1)) (sndL hf _ _ h3) s1
  · rw [Bool.and_eq_true, Bool.and_eq_true] at h
    obtain ⟨⟨h1, h2⟩, h3⟩ := h
    have h1 := of_decide_eq_true h1
    subst h1
    split at h3
    · rename_i e q r y T ht
      rw [Bool.and_eq_true, Bool.and_eq_true] at h3
      obtain ⟨⟨h4, h5⟩, h6⟩ := h3
      have h4 := of_decide_eq_true h4
      obtain ⟨p2, rfl⟩ := vName_ok h4
      have h6 : (unst q && f e q && true) = true := h6
      rw [Bool.and_true, Bool.and_eq_true] at h6
      exact eok_isi c.inn.K ht (c.gl h2) (c.mgn L mem_isi) (c.gl h5) (c.mgn L (tyNm_mem ht)) (hf _ _ h6.2) h6.1
    · cases h3
  · rw [Bool.and_eq_true, Bool.and_eq_true] at h
    obtain ⟨⟨h1, h2⟩, h3⟩ := h
    have h1 := of_decide_eq_true h1
    subst h1
    split at h3
    · rename_i e q
      split at h3
      · rename_i y r ev
        obtain ⟨p2, pos2, rfl⟩ := vCall_ok ev
        rw [Bool.and_eq_true, Bool.and_eq_true] at h3
        obtain ⟨⟨h4, h5⟩, h6⟩ := h3
        have h4 := of_decide_eq_true h4
        subst h4
        have h6 : (unst r && f e r && true) = true := h6
        rw [Bool.and_true, Bool.and_eq_true] at h6
        exact eok_lrange c.calm (c.gl h2) (c.mgn L mem_list) (c.gl h5) (c.mgn L mem_range) (hf _ _ h6.2) h6.1
      · cases h3
    · cases h3
theorem mem_dict : ("dict" : Str) ∈ blts := by decide
theorem sndDz {sc : Scope} {fs : Option Scope} {X : Cx} {W : WX} {C : Nat → List D → Gs → R D} (c : Ctx S n N sc fs X W) (L : Lnk S J n) {f : Ex → Expr → Bool} (hf : ∀ e p, f e p = true → PE X p (tD S H0 W C e)) {b : Bi} {es : List Ex} {x : Str} {ps : List Expr} {p pos : Pos} (h : chkDz f sc b es x ps = true) :
    PE X (.Call (.Name x p) ps [] pos) (tD S H0 W C (.bi b es)) := by
  unfold chkDz at h
  rw [Bool.and_eq_true, Bool.and_eq_true] at h
  obtain ⟨⟨h1, h2⟩, h3⟩ := h
  have h1 := of_decide_eq_true h1
  subst h1
  split at h3
  · rename_i e e2 q
    split at h3
    · rename_i y q1 q2 ev
      obtain ⟨p2, pos2, rfl⟩ := vCall_ok ev
      rw [Bool.and_eq_true, Bool.and_eq_true] at h3
      obtain ⟨⟨h4, h5⟩, h6⟩ := h3
      have h4 := of_decide_eq_true h4
      subst h4
      obtain ⟨s1, s2⟩ := chkL_st h6
      rw [List.all_cons, List.all_cons, Bool.and_eq_true, Bool.and_eq_true] at s1
      exact eok_dzip c.inn.K c.calm (c.gl h5) (c.mgn L mem_zip) (c.gl h2) (c.mgn L mem_dict) (sndL hf _ _ h6) (star_cons s1.1) (star_any (by rw [List.all_cons, s1.2.1]; rfl))
    · cases h3
  · cases h3
theorem sndMt {sc : Scope} {fs : Option Scope} {X : Cx} {W : WX} {C : Nat → List D → Gs → R D} (c : Ctx S n N sc fs X W) {f : Ex → Expr → Bool} (hf : ∀ e p, f e p = true → PE X p (tD S H0 W C e)) {b : Bi} {a : Ex} {es : List Ex} {o : Expr} {m : Str} {ps : List Expr} {ap cp : Pos} (h : chkMt f b a es o m ps (ap.endLine == cp.line) = true) :
    PE X (.Call (.Attribute o m ap) ps [] cp) (tD S H0 W C (.meth b a es)) := by
  unfold chkMt at h
  rw [Bool.and_eq_true, Bool.and_eq_true, Bool.and_eq_true] at h
  obtain ⟨⟨⟨h1, h2⟩, h3⟩, h4⟩ := h
  split at h4
  · rename_i e q
    rw [Bool.and_eq_true, Bool.and_eq_true] at h4
    obtain ⟨⟨h5, h6⟩, h7⟩ := h4
    have h5 := of_decide_eq_true h5
    subst h5
    have ha : PA X [q] (tDs S H0 W C [e]) := aok_cons (hf _ _ h7) aok_nil (star_cons h6)
    have q := pe_bm PySem.F.plainAttrs_list PySem.F.slot_list_index PySem.F.type_list_index mt_index (hf _ _ h3) ha (obB_ok h1 _ _) (by rw [star_cons h6]; rfl) h2 (star_cons h6) rfl
    rw [c.inn.K] at q
    exact eok_meth q rm_index
  · rename_i e e2 q q2
    rw [Bool.and_eq_true, Bool.and_eq_true, Bool.and_eq_true, Bool.and_eq_true] at h4
    obtain ⟨⟨⟨⟨h5, h6⟩, h7⟩, h8⟩, h9⟩ := h4
    have h5 := of_decide_eq_true h5
    subst h5
    have hu := c.room.units
    exact eok_get (by omega) (hf _ _ h3) (hf _ _ h7) (hf _ _ h9) ⟨obB_ok h1 _ _, by rw [star_cons h6, star_cons h8]; rfl, h2, by rw [star_cons h6, star_cons h8]; rfl⟩
  · have h4 := of_decide_eq_true h4
    subst h4
    have q := pe_bm0 (X := X) (apos := ap) (cpos := cp) PySem.F.plainAttrs_str PySem.F.slot_str_upper PySem.F.type_str_upper mt_upper (hf _ _ h3) (obB_ok h1 _ _) h2
    rw [c.inn.K] at q
    exact eok_meth0 q rm_upper
  · cases h4
/-- the block's context -/
theorem Ctx.blk {sc scope : Scope} {fs : Option Scope} {X : Cx} {W : WX} (c : Ctx S n N sc fs X W) (hk : scope.kind = .function) (s : Shared) (H : Hp) (Cl : Addr) (cl : List (Str × Addr)) (fp : List Addr) :
    Ctx S n N (relS scope sc) (some scope) (X.blk s H scope (compEnvC scope cl Cl X.env) fp) WF0 where
  inn := ⟨c.inn.P, c.inn.w, c.inn.K, c.inn.mg, c.inn.base⟩
  eN := c.eN
  eS := by
    show relabel scope X.env = relS scope sc
    rw [← c.eS]; rfl
  calm := c.calm
  nd := c.nd
  room := c.room
  tk := takes0
  kind := hk
  fn := fun x h => by
    show (scope.names.lookup x == some .cell) = true
    have h : isK scope x .cell = true := h
    rw [isK_ok h]; rfl
def Snd (S : Inf) (H0 : Hp) (n : Nat) (W : WX) (X : Cx) (e : Ex) (pe : Expr) : Prop :=
  PE X pe (tD S H0 W (evF S.T n) e) ∧ PT X pe (tDT S H0 W (evF S.T n) e) ∧ ∀ op vs pos, pe = .BoolOp op vs pos → PW X pe (tDT S H0 W (evF S.T n) e)
theorem Snd.of {W : WX} {X : Cx} {e : Ex} {pe : Expr} (h : PE X pe (tD S H0 W (evF S.T n) e)) (hs : simpT pe = true) : Snd S H0 n W X e pe :=
  ⟨h, tok_val h (simpT_ok hs), fun op vs pos z => by subst z; cases hs⟩
theorem Snd.of2 {W : WX} {X : Cx} {e : Ex} {pe : Expr} (h : PE X pe (tD S H0 W (evF S.T n) e)) (ht : PT X pe (tDT S H0 W (evF S.T n) e)) (hs : vBool pe = none) : Snd S H0 n W X e pe :=
  ⟨h, ht, fun op vs pos z => by subst z; cases hs⟩
theorem relS_kind {scope sc : Scope} {N : List Str} {ix : List Nat} (h : blkB N sc scope ix = true) : scope.kind = .function := (blkB_ok h).kind
theorem sndE (L : Lnk S J n) : ∀ (m : Nat) (sc : Scope) (fs : Option Scope) (X : Cx) (W : WX) (e : Ex) (pe : Expr), Ctx S n N sc fs X W → chkE J N m sc fs e pe = true → Snd S H0 n W X e pe
  | 0, sc, fs, X, W, e, pe, c, h => by cases h
  | m + 1, sc, fs, X, W, e, pe, c, h => by
    have ih : ∀ {e : Ex} {p : Expr}, chkE J N m sc fs e p = true → Snd S H0 n W X e p := fun {e p} h => sndE L m sc fs X W e p c h
    have ihE : ∀ e p, chkE J N m sc fs e p = true → PE X p (tD S H0 W (evF S.T n) e) := fun e p h => (ih h).1
    unfold chkE at h
    split at h
    · rename_i op p1 pos ev
      have := vBool_ok ev
      subst this
      obtain ⟨h1, h2, _⟩ := ih h
      have hw : PW X (.BoolOp op [p1] pos) (tDT S H0 W (evF S.T n) e) := by
        cases op with
        | And => exact pw_and1 h2
        | Or => exact pw_or1 h2
      exact ⟨pe_one h1, hw.pt, fun _ _ _ _ => hw⟩
    · rename_i hnb
      split at h
      · -- lit
        obtain ⟨v, h1, h2⟩ := litB_ok (S := S) (X := X) h
        refine Snd.of (eok_lit h1 h2) ?_
        unfold litB at h
        split at h <;> first | rfl | cases h
      · -- var
        split at h
        · rename_i i _ x ev
          obtain ⟨p, rfl⟩ := vName_ok ev
          have h : nmB N sc i x = true := h
          unfold nmB at h
          rw [Bool.and_eq_true, Bool.and_eq_true] at h
          obtain ⟨d1, d2⟩ := nmOk_ok h.2
          exact Snd.of (eok_var (by rw [c.eN]; exact of_decide_eq_true h.1.1) (by rw [c.eS]; exact visB_ok h.1.2) d1 d2) rfl
        · cases h
      · -- glo
        split at h
        · rename_i x d _ y ev
          obtain ⟨p, rfl⟩ := vName_ok ev
          rw [Bool.and_eq_true, Bool.and_eq_true, Bool.and_eq_true] at h
          obtain ⟨⟨⟨h1, h2⟩, h3⟩, h4⟩ := h
          have h1 := of_decide_eq_true h1
          subst h1
          obtain ⟨v, u, g1, g2, g3⟩ := L.glo x d (gloIn_ok h4)
          exact Snd.of (eok_glo (pe_glob (c.gl h2) (by rw [c.inn.mg]; exact g1) g2 (nmOk_ok h3).1) g3) rfl
        · cases h
      · -- tup
        split at h
        · rename_i es ps ev
          obtain ⟨k, p, rfl⟩ := vTup_ok ev
          rw [Bool.and_eq_true] at h
          exact Snd.of (eok_tup (sndL ihE _ _ h.1) (Nat.le_of_ble_eq_true h.2)) rfl
        · cases h
      · -- lst
        split at h
        · rename_i es ps ev
          obtain ⟨p, rfl⟩ := vLst_ok ev
          rw [Bool.and_eq_true] at h
          exact Snd.of (eok_lst (sndL ihE _ _ h.1) (Nat.le_of_ble_eq_true h.2)) rfl
        · cases h
      · -- op
        split at h
        · rename_i o a b pa p pb ev
          obtain ⟨q, rfl⟩ := vBin_ok ev
          rw [Bool.and_eq_true, Bool.and_eq_true] at h
          obtain ⟨⟨h1, h2⟩, h3⟩ := h
          obtain ⟨r, r1, r2⟩ := bin_ok c.inn c.room (of_decide_eq_true h1)
          exact Snd.of (eok_op r1 r2 (ih h2).1 (ih h3).1) rfl
        · split at h
          · rename_i o a b _ pa p pb ev
            obtain ⟨q, rfl⟩ := vCmp_ok ev
            rw [Bool.and_eq_true, Bool.and_eq_true, Bool.and_eq_true] at h
            obtain ⟨⟨⟨h1, h2⟩, h3⟩, h4⟩ := h
            have h1 := of_decide_eq_true h1
            obtain ⟨r, r1, r2⟩ := cmp_ok c.inn c.room h1
            exact Snd.of2 (eok_cmp r1 r2 (ih h2).1 (ih h3).1 (noSet_mark h4) (cmp_notF h1)) (tok_cmp r1 r2 (ih h2).1 (ih h3).1 (noSet_mark h4)) rfl
          · cases h
      · -- neg
        split at h
        · rename_i a pa ev
          obtain ⟨q, rfl⟩ := vUn_ok ev
          exact Snd.of (eok_neg (ih h).1) rfl
        · cases h
      · -- not
        split at h
        · rename_i a pa ev
          obtain ⟨q, rfl⟩ := vUn_ok ev
          exact Snd.of2 (eok_not (ih h).1) (tok_not (ih h).2.1) rfl
        · cases h
      · -- and
        split at h
        · rename_i a b pa pb rest pos ev
          have := vBool_ok ev
          subst this
          rw [Bool.and_eq_true] at h
          have hb := ih h.2
          exact ⟨eok_and (ih h.1).1 hb.1, tok_and (ih h.1).2.1 (hb.2.2 _ _ _ rfl) |>.pt, fun _ _ _ _ => tok_and (ih h.1).2.1 (hb.2.2 _ _ _ rfl)⟩
        · cases h
      · -- or
        split at h
        · rename_i a b pa pb rest pos ev
          have := vBool_ok ev
          subst this
          rw [Bool.and_eq_true] at h
          have hb := ih h.2
          exact ⟨eok_or (ih h.1).1 hb.1, tok_or (ih h.1).2.1 (hb.2.2 _ _ _ rfl) |>.pt, fun _ _ _ _ => tok_or (ih h.1).2.1 (hb.2.2 _ _ _ rfl)⟩
        · cases h
      · -- ite
        split at h
        · rename_i a b d pc pa pb ev
          obtain ⟨q, rfl⟩ := vIf_ok ev
          rw [Bool.and_eq_true, Bool.and_eq_true] at h
          exact Snd.of2 (eok_ite (ih h.1.1).2.1 (ih h.1.2).1 (ih h.2).1) (tok_ite (ih h.1.1).2.1 (ih h.1.2).2.1 (ih h.2).2.1) rfl
        · cases h
      · -- chain
        split at h
        · rename_i o p a b d pa po pp pb pc ev
          obtain ⟨q, rfl⟩ := vCmp_ok ev
          simp only [Bool.and_eq_true] at h
          obtain ⟨⟨⟨⟨⟨⟨h1, h2⟩, h3⟩, h4⟩, h5⟩, h6⟩, h7⟩ := h
          obtain ⟨r, r1, r2⟩ := cmp_ok c.inn c.room (of_decide_eq_true h1)
          obtain ⟨r', r3, r4⟩ := cmp_ok c.inn c.room (of_decide_eq_true h2)
          have hm : lastMarks [po, pp] [pb, pc] = false := noSet_mark h7
          exact Snd.of2 (eok_chain r1 r2 r3 r4 (ih h3).1 (ih h4).1 (ih h5).1 hm) (tok_chain r1 r2 r3 r4 (ih h3).1 (ih h4).1 (ih h5).1 hm) rfl
        · cases h
      · -- call
        split at h
        · rename_i f es _ x ps ev
          obtain ⟨p, pos, rfl⟩ := vCall_ok ev
          simp only [Bool.and_eq_true] at h
          obtain ⟨⟨⟨h1, h2⟩, h3⟩, h4⟩ := h
          obtain ⟨g1, g2, g3, g4⟩ := L.call f x es.length (of_decide_eq_true h1)
          obtain ⟨s1, s2⟩ := chkL_st h4
          cases es with
          | nil =>
            cases ps with
            | nil => exact Snd.of (eok_call0 c.inn g1 g2 g3 c.room (c.gl h2) c.tk g4.symm (nmOk_ok h3).1) rfl
            | cons _ _ => cases h4
          | cons e es =>
            cases ps with
            | nil => cases h4
            | cons q qs =>
              have s1' := s1
              rw [List.all_cons, Bool.and_eq_true] at s1
              exact Snd.of (eok_call c.inn g1 g2 g3 c.room (c.gl h2) c.tk g4.symm (sndL ihE _ _ h4) (nmOk_ok h3).1 (star_cons s1.1) (star_any s1.2)) rfl
        · cases h
      · -- bi
        split at h
        · rename_i b es x ps ev
          obtain ⟨p, pos, rfl⟩ := vCall_ok ev
          rw [Bool.or_eq_true] at h
          rcases h with h | h
          · exact Snd.of (sndBi c L ihE h) rfl
          · exact Snd.of (sndDz c L ihE h) rfl
        · split at h
          · rename_i e pa ev
            obtain ⟨p, rfl⟩ := vUn_ok ev
            rw [Bool.and_eq_true] at h
            exact Snd.of2 (eok_tnot (ih h.1).1) (tok_tnot (ih h.1).1 h.2) rfl
          · cases h
      · -- meth
        split at h
        · rename_i b a es o mn ps ln ev
          obtain ⟨ap, cp, rfl, hb⟩ := vMth_ok ev
          subst hb
          exact Snd.of (sndMt c ihE h) rfl
        · cases h
      · -- ix
        split at h
        · rename_i a i pa pi ev
          obtain ⟨p, rfl⟩ := vSub_ok ev
          rw [Bool.and_eq_true, Bool.and_eq_true] at h
          exact Snd.of (eok_ix c.inn.K (Nat.lt_of_le_of_lt (by omega) c.room.units) (ih h.1.2).1 (ih h.2).1 (noSl_ok h.1.1)) rfl
        · cases h
      · -- sl
        split at h
        · rename_i pa ps ev
          split at h
          · rename_i lo hi ev2
            obtain ⟨p, rfl⟩ := vSub_ok ev
            obtain ⟨p2, rfl⟩ := vSlice_ok ev2
            rw [Bool.and_eq_true] at h
            obtain ⟨h1, h2⟩ := h
            unfold chkSl at h2
            split at h2
            · exact Snd.of (eok_sl_lo c.inn.K (ih h1).1 (ih h2).1) rfl
            · exact Snd.of (eok_sl_hi c.inn.K (ih h1).1 (ih h2).1) rfl
            · rw [Bool.and_eq_true] at h2
              exact Snd.of (eok_sl_both c.inn.K (ih h1).1 (ih h2.1).1 (ih h2.2).1) rfl
            · cases h2
          · split at h
            · obtain ⟨p, rfl⟩ := vSub_ok ev
              rw [Bool.and_eq_true] at h
              obtain ⟨k, p1, p2, p3, rfl⟩ := vRev_ok h.1
              exact Snd.of (eok_sl_rev c.inn.K (ih h.2).1) rfl
            · cases h
        · cases h
      · -- comp
        split at h
        · rename_i e t k es cs _ elt tg iter ifs scope pos ev
          have := vComp_ok ev
          subst this
          simp only [Bool.and_eq_true] at h
          obtain ⟨⟨⟨⟨⟨h1, h2⟩, h3⟩, h4⟩, h5⟩, h6⟩ := h
          have hk := relS_kind h5
          have blk := blkB_ok h5
          refine Snd.of (eok_comp c.inn.K c.calm (by rw [c.eN]; exact c.nd) (sndIt c L ihE h3) (by rw [c.eN, c.eS]; exact blk) (ownOf_ix N _) (fun s H Cl cl fp => sndTg (c.blk hk s H Cl cl fp) t tg h2) (fun s H Cl cl fp => ?_) (fun s H Cl cl fp => (sndE L m _ _ _ _ e elt (c.blk hk s H Cl cl fp) h1).1) h6) rfl
          unfold chkC at h4
          split at h4
          · exact cok_nil
          · exact cok_one (sndE L m _ _ _ _ _ _ (c.blk hk s H Cl cl fp) h4).2.1
          · cases h4
        · cases h
      · -- fz
        rename_i is e
        obtain ⟨h1, h2, h3⟩ := ih h
        exact ⟨h1.imp fun σ H Q q => law_fz q, h2.imp fun σ H Q q => law_fzT q, fun op vs pos z => (h3 op vs pos z).imp fun σ H Q q => law_fzT q⟩
      · -- dic
        split at h
        · rename_i es ys _ ks vs ev
          obtain ⟨p, rfl⟩ := vDict_ok ev
          rw [Bool.and_eq_true, Bool.and_eq_true] at h
          obtain ⟨prs, rfl, hp, ha, hl⟩ := chkPs_ok ihE _ _ _ h.2
          exact Snd.of (eok_disp c.inn.K hp ha hl (fun z => by rw [z] at h; exact absurd h.1.1 (by decide)) (Nat.le_of_ble_eq_true h.1.2)) rfl
        · cases h
      · cases h
end
end Rz

/-! RzS16 -/
set_option Elab.async false
set_option linter.all false
set_option maxRecDepth 100000
set_option maxHeartbeats 4000000
namespace Rz
open PySem PySem.Spec PyProof.Rows L2

/-! ### stores exchanged, comprehensions stored -/
def noSD : Expr → Bool
  | .SetComp _ _ _ _ => false
  | .DictComp _ _ _ _ _ => false
  | _ => true
def swP (sc : Scope) (value tg : Expr) : Bool := match value with
  | .ListComp _ _ s vp => match tg with
    | .Name t tp => isK sc t .local && (tp.line == vp.line) && !(s.names.any fun (n, k) => n == t && (k == .local || k == .cell))
    | _ => false
  | _ => false
theorem isK_beq {sc : Scope} {env : PySem.Env} (he : env.scope = sc) (x : Str) (k : NameKind) : (env.kindOf x == some k) = isK sc x k := by
  show (env.scope.names.lookup x == some k) = decide (sc.names.lookup x = some k)
  rw [he]
  by_cases h : sc.names.lookup x = some k
  · rw [h]; simp
  · rw [decide_eq_false h]; simpa using h
theorem blockK {sc : Scope} {env : PySem.Env} (he : env.scope = sc) (hk : sc.kind = .function) : env.blockKind = .function := by
  unfold Env.blockKind
  rw [he, hk]; rfl
theorem swP_ok {sc : Scope} {env : PySem.Env} (he : env.scope = sc) (hk : sc.kind = .function) {value tg : Expr} {line : Nat} (h : noSD value = true) : swapsWith value (some tg) line env = pure (swP sc value tg) := by
  cases value with
  | ListComp elt gs s vp =>
    cases tg with
    | Name t tp =>
      show (pure (env.blockKind == .function && env.kindOf t == some .local && tp.line == vp.line && !(s.names.any fun (n, k) => n == t && (k == .local || k == .cell))) : Sem Bool) = pure _
      rw [blockK he hk, isK_beq he]
      rfl
    | _ => rfl
  | SetComp _ _ _ _ => cases h
  | DictComp _ _ _ _ _ => cases h
  | _ => rfl
def noComp : Expr → Bool
  | .SetComp _ _ _ _ => false
  | .DictComp _ _ _ _ _ => false
  | .ListComp _ _ _ _ => false
  | _ => true
theorem noComp_ok {env : PySem.Env} {value : Expr} {line : Nat} (h : noComp value = true) : swapsWith value none line env = pure false := by
  cases value <;> first | rfl | cases h
def isStar : Expr → Bool
  | .Starred .. => true
  | _ => false
def swLoc (sc : Scope) (line : Nat) : Expr → Option Str
  | .Name id pos => if isK sc id .local && pos.line == line then some id else none
  | _ => none
def swNames (sc : Scope) (ts vs : List Expr) : Option (Option (List Str)) :=
  if !(ts.length == 2 || ts.length == 3) || vs.length != ts.length then some none
  else if vs.any isStar then some none
  else if (ts.filterMap (swLoc sc ((ts.head?.map (·.pos.line)).getD 0))).length != ts.length || (ts.filterMap (swLoc sc ((ts.head?.map (·.pos.line)).getD 0))).eraseDups.length != (ts.filterMap (swLoc sc ((ts.head?.map (·.pos.line)).getD 0))).length then some none
  else if vs.all (foldedForSure 8) then some none
  else if vs.all (constantsAlone 8) then none
  else some (some (ts.filterMap (swLoc sc ((ts.head?.map (·.pos.line)).getD 0))))
def swAux (f : Expr → Bool) (g : Expr → Option Str) (ts vs : List Expr) (b : Bool) : Sem (Option (List Str)) := do
  if !(ts.length == 2 || ts.length == 3) || vs.length != ts.length || b then return none
  if vs.any f then return none
  let names := ts.filterMap g
  if names.length != ts.length || names.eraseDups.length != names.length then return none
  if vs.all (foldedForSure 8) then return none
  if vs.all (constantsAlone 8) then unsupported "assign.tuple-of-constant-expressions:order-of-the-stores"
  return some names
theorem swNames_ok {sc : Scope} {env : PySem.Env} (he : env.scope = sc) (hk : sc.kind = .function) {ts vs : List Expr} {k1 k2 : Nat} {p1 p2 : Pos} {r : Option (List Str)} (h : swNames sc ts vs = some r) : swappedStores [.Tuple ts k1 p1] (.Tuple vs k2 p2) env = pure r := by
  obtain ⟨f, g, hf, hg, hh⟩ : ∃ f g, (∀ x, f x = isStar x) ∧ (∀ x, g x = swLoc sc ((ts.head?.map (·.pos.line)).getD 0) x) ∧ swappedStores [.Tuple ts k1 p1] (.Tuple vs k2 p2) env = swAux f g ts vs (env.blockKind != .function) := by
    refine ⟨_, _, ?_, ?_, rfl⟩
    · intro x; cases x <;> rfl
    · intro x
      cases x with
      | Name id pos => show (if (env.kindOf id == some .local && _) = true then some id else none) = (if (isK sc id .local && _) = true then some id else none); rw [isK_beq he]
      | _ => rfl
  rw [hh, blockK he hk]
  have f1 : f = isStar := funext hf
  have g1 : g = swLoc sc ((ts.head?.map (·.pos.line)).getD 0) := funext hg
  subst f1 g1
  unfold swNames at h
  unfold swAux
  have e3 : ((ScopeKind.function : ScopeKind) != ScopeKind.function) = false := by decide
  rw [e3, Bool.or_false]
  dsimp only
  by_cases c1 : (!(ts.length == 2 || ts.length == 3) || vs.length != ts.length) = true
  · rw [if_pos c1] at h ⊢
    injection h with h; subst h; rfl
  · rw [if_neg c1] at h ⊢
    by_cases c2 : vs.any isStar = true
    · rw [if_pos c2] at h ⊢
      injection h with h; subst h; rfl
    · rw [if_neg c2] at h ⊢
      generalize ts.filterMap (swLoc sc ((ts.head?.map (·.pos.line)).getD 0)) = names at h ⊢
      by_cases c3 : (names.length != ts.length || names.eraseDups.length != names.length) = true
      · rw [if_pos c3] at h ⊢
        injection h with h; subst h; rfl
      · rw [if_neg c3] at h ⊢
        by_cases c4 : vs.all (foldedForSure 8) = true
        · rw [if_pos c4] at h ⊢
          injection h with h; subst h; rfl
        · rw [if_neg c4] at h ⊢
          by_cases c5 : vs.all (constantsAlone 8) = true
          · rw [if_pos c5] at h; cases h
          · rw [if_neg c5] at h ⊢
            injection h with h; subst h; rfl
def isTL : Expr → Bool
  | .Tuple _ _ _ => true
  | .List _ _ => true
  | _ => false
theorem sw_noT {env : PySem.Env} {tg value : Expr} (h : isTL tg = false) : swappedStores [tg] value env = pure none := by
  cases tg <;> first | rfl | cases h
theorem sw_noV {env : PySem.Env} {tg value : Expr} (h : isTL value = false) : swappedStores [tg] value env = pure none := by
  unfold swappedStores
  cases tg <;> first | rfl | (cases value <;> first | rfl | cases h)
end Rz

/-! RzX1 -/
set_option Elab.async false
set_option linter.all false
set_option maxRecDepth 100000
set_option maxHeartbeats 4000000
namespace Rz
open PySem PySem.Spec PyProof.Rows L2

/-! ### the check of statements -/
def vAsg : Stmt → Option (List Expr × Expr)
  | .Assign ts v _ => some (ts, v)
  | _ => none
theorem vAsg_ok {s : Stmt} {ts : List Expr} {v : Expr} (h : vAsg s = some (ts, v)) : ∃ p, s = .Assign ts v p := by
  cases s with
  | Assign a b p => injection h with h; injection h with h1 h2; subst h1 h2; exact ⟨p, rfl⟩
  | _ => cases h
def vExprS : Stmt → Option Expr
  | .Expr v _ => some v
  | _ => none
theorem vExprS_ok {s : Stmt} {v : Expr} (h : vExprS s = some v) : ∃ p, s = .Expr v p := by
  cases s with
  | Expr a p => injection h with h; subst h; exact ⟨p, rfl⟩
  | _ => cases h
def vIfS : Stmt → Option (Expr × List Stmt × List Stmt)
  | .If c a b _ => some (c, a, b)
  | _ => none
theorem vIfS_ok {s : Stmt} {c : Expr} {a b : List Stmt} (h : vIfS s = some (c, a, b)) : ∃ p, s = .If c a b p := by
  cases s with
  | If x y z p => injection h with h; injection h with h1 h; injection h with h2 h3; subst h1 h2 h3; exact ⟨p, rfl⟩
  | _ => cases h
def vFor : Stmt → Option (Expr × Expr × List Stmt)
  | .For t i b [] _ => some (t, i, b)
  | _ => none
theorem vFor_ok {s : Stmt} {t i : Expr} {b : List Stmt} (h : vFor s = some (t, i, b)) : ∃ p, s = .For t i b [] p := by
  unfold vFor at h
  split at h
  · injection h with h; injection h with h1 h; injection h with h2 h3; subst h1 h2 h3; exact ⟨_, rfl⟩
  · cases h
def vWhl : Stmt → Option (Expr × List Stmt)
  | .While c b [] _ => some (c, b)
  | _ => none
theorem vWhl_ok {s : Stmt} {c : Expr} {b : List Stmt} (h : vWhl s = some (c, b)) : ∃ p, s = .While c b [] p := by
  unfold vWhl at h
  split at h
  · injection h with h; injection h with h1 h2; subst h1 h2; exact ⟨_, rfl⟩
  · cases h
def vRet : Stmt → Option (Option Expr)
  | .Return v _ => some v
  | _ => none
theorem vRet_ok {s : Stmt} {v : Option Expr} (h : vRet s = some v) : ∃ p, s = .Return v p := by
  cases s with
  | Return a p => injection h with h; subst h; exact ⟨p, rfl⟩
  | _ => cases h
def vMeth : Expr → Option (Str × Str × Expr × Bool)
  | .Call (.Attribute (.Name x _) m ap) [a] [] cp => some (x, m, a, ap.endLine == cp.line)
  | _ => none
theorem vMeth_ok {e : Expr} {x m : Str} {a : Expr} {b : Bool} (h : vMeth e = some (x, m, a, b)) : ∃ np ap cp, e = .Call (.Attribute (.Name x np) m ap) [a] [] cp ∧ (ap.endLine == cp.line) = b := by
  unfold vMeth at h
  split at h
  · injection h with h; injection h with h1 h; injection h with h2 h; injection h with h3 h4; subst h1 h2 h3 h4; exact ⟨_, _, _, rfl, rfl⟩
  · cases h
def isPass : Stmt → Bool
  | .Pass _ => true
  | _ => false
def isBrk : Stmt → Bool
  | .Break _ => true
  | _ => false
def isCnt : Stmt → Bool
  | .Continue _ => true
  | _ => false
def strip : Ex → Ex
  | .fz _ e => strip e
  | e => e
def isCp : Ex → Bool
  | .comp _ _ _ _ _ => true
  | _ => false
def chkAsg (J : Tab) (N : List Str) (m : Nat) (sc : Scope) (i : Nat) (e : Ex) : List Expr → Expr → Bool
  | [tg], v => match vName tg with
    | some x => stB N sc none i x && noSD v && (if swP sc v tg then isCp (strip e) && chkE J N m sc none (strip e) v else chkE J N m sc none e v)
    | none => false
  | _, _ => false
def unpSw (sc : Scope) (tg v : Expr) : Bool := match vTup tg with
  | some ts => match vTup v with
    | some vs => decide (swNames sc ts vs = some none)
    | none => !isTL v
  | none => false
def namesOf : List Expr → List Str
  | [] => []
  | p :: ps => (vName p).getD "" :: namesOf ps
def chkNm (N : List Str) (sc : Scope) : List Nat → List Expr → Bool
  | [], [] => true
  | j :: js, p :: ps => (match vName p with
    | some x => unst p && stB N sc none j x
    | none => false) && chkNm N sc js ps
  | _, _ => false
def ownF (T : Nat → Option Fn) : List (Bool × Nat) → List Ex → Bool
  | t :: ts, e :: es => (!t.1 || isF T e) && ownF T ts es
  | _, _ => true
def chkPar (f : Ex → Expr → Bool) (T : Nat → Option Fn) (N : List Str) (sc : Scope) (ts : List (Bool × Nat)) (es : List Ex) (ps vs : List Expr) : Bool :=
  chkL f es vs && chkNm N sc (ts.map (·.2)) ps && decide ((ts.map (·.2)).Nodup) && decide (ts.length = es.length) && ownF T ts es && Nat.ble es.length 1000 &&
  (match swNames sc ps vs with
    | some none => true
    | some (some names) => decide (names = namesOf ps) && names.all fun x => isK sc x .local
    | none => false)
def chkSs (f : St → Stmt → Bool) : List St → List Stmt → Bool
  | [], [] => true
  | .frz _ :: ss, ps => chkSs f ss ps
  | s :: ss, p :: ps => f s p && chkSs f ss ps
  | _, _ => false

/-! ### raise and try -/
def vRaise : Stmt → Option Str
  | .Raise (some (.Call (.Name x _) [.Constant (.str _) _ _] [] _)) none _ => some x
  | _ => none
theorem vRaise_ok {s : Stmt} {x : Str} (h : vRaise s = some x) : ∃ m j p1 p2 p3 p4, s = .Raise (some (.Call (.Name x p1) [.Constant (.str m) j p2] [] p3)) none p4 := by
  unfold vRaise at h
  split at h
  · injection h with h; subst h; exact ⟨_, _, _, _, _, _, rfl⟩
  · cases h
def vTry : Stmt → Option (List Stmt × List ExceptHandler)
  | .Try b hs [] [] _ => some (b, hs)
  | _ => none
theorem vTry_ok {s : Stmt} {b : List Stmt} {hs : List ExceptHandler} (h : vTry s = some (b, hs)) : ∃ p, s = .Try b hs [] [] p := by
  unfold vTry at h
  split at h
  · injection h with h; injection h with h1 h2; subst h1 h2; exact ⟨_, rfl⟩
  · cases h
def vHd : ExceptHandler → Option (Str × Stmt × List Stmt)
  | .ExceptHandler (some (.Name x _)) none (b :: bs) _ => some (x, b, bs)
  | _ => none
theorem vHd_ok {s : ExceptHandler} {x : Str} {b : Stmt} {bs : List Stmt} (h : vHd s = some (x, b, bs)) : ∃ p q, s = .ExceptHandler (some (.Name x p)) none (b :: bs) q := by
  unfold vHd at h
  split at h
  · injection h with h; injection h with h1 h; injection h with h2 h3; subst h1 h2 h3; exact ⟨_, _, rfl⟩
  · cases h
def clsB (J : Tab) (sc : Scope) (c : Nat) (x : Str) : Bool := decide (J.cls.lookup c = some x) && gliB sc x && !(x == ("__debug__" : Str))
/-- what may stand in an except suite -/
def chkU (N : List Str) (fr : Bool) (sc : Scope) (s : St) (p : Stmt) : Bool := match s with
  | .pass => isPass p
  | .ret (.lit d) => match vRet p with
    | some (some v) => litB d v && !fr
    | _ => false
  | .app i (.lit d) => match vExprS p with
    | some v => match vMeth v with
      | some (x, a, q, b) => decide (a = ("append" : Str)) && nmB N sc i x && b && unst q && litB d q
      | none => false
    | none => false
  | .asg i (.op .add (.var j) (.lit d)) => match vAsg p with
    | some ([tg], v) => match vName tg with
      | some x => match vBin v with
        | some (a, .Add, b) => match vName a with
          | some y => stB N sc none i x && nmB N sc j y && litB d b
          | none => false
        | _ => false
      | none => false
    | _ => false
  | _ => false
def chkHds (J : Tab) (N : List Str) (fr : Bool) (sc : Scope) : List (Nat × Option Nat × List St) → List ExceptHandler → Bool
  | [], [] => true
  | h :: hs, p :: ps => (match vHd p with
    | some (x, b, bs) => clsB J sc h.1 x && decide (h.2.1 = none) && chkSs (chkU N fr sc) h.2.2 (b :: bs)
    | none => false) && chkHds J N fr sc hs ps
  | _, _ => false
section
variable {S : Inf} {J : Tab} {n : Nat} {N : List Str} {H0 Hs H H1 : Hp} {B0 Bs B B1 : Bad} {Γ0 Γs Γ Γ1 : List Addr} {W : WX} {fr : Bool} {C : Nat → List D → Gs → R D} {X : Cx} {Z : Ends} {σ : L2.St}
theorem st_ok {sc : Scope} {fs : Option Scope} {X : Cx} {W : WX} (c : Ctx S n N sc fs X W) {i : Nat} {x : Str} (h : stB N sc fs i x = true) : X.N[i]? = some x ∧ Loc X.env.scope x ∧ (X.fn x = true ∨ X.env.scope.names.lookup x = some .local) := by
  unfold stB at h
  rw [Bool.and_eq_true, Bool.or_eq_true, Bool.and_eq_true] at h
  refine ⟨by rw [c.eN]; exact of_decide_eq_true h.1, ?_, ?_⟩
  · rw [c.eS]; exact h.2.elim (fun z => .inl (isK_ok z)) fun z => .inr (isK_ok z.1)
  · rw [c.eS]; exact h.2.elim (fun z => .inr (isK_ok z)) fun z => .inl (c.fn x z.2)
theorem sndSs {X : Cx} {W : WX} {C : Nat → List D → Gs → R D} {f : St → Stmt → Bool} (hf : ∀ s p, f s p = true → PS X p (tS S H0 B0 Γ0 W fr C s)) : ∀ (ss : List St) (ps : List Stmt), chkSs f ss ps = true → PSs X ps (tSs S H0 B0 Γ0 W fr C ss)
  | [], [], _ => pss_nil.imp fun D σ H h => law_nil h
  | [], _ :: _, h => by cases h
  | s :: ss, ps, h => by
    by_cases hz : ∃ is, s = .frz is
    · obtain ⟨is, rfl⟩ := hz
      have h : chkSs f ss ps = true := by cases ps <;> exact h
      exact (sndSs hf ss ps h).imp fun D σ H h => law_frz h
    · cases ps with
      | nil => cases s <;> first | cases h | exact absurd ⟨_, rfl⟩ hz
      | cons p ps =>
        have h : (f s p && chkSs f ss ps) = true := by cases s <;> first | exact h | exact absurd ⟨_, rfl⟩ hz
        rw [Bool.and_eq_true] at h
        exact (pss_cons (hf s p h.1) (sndSs hf ss ps h.2)).imp fun D σ H h => law_cons h

theorem law_rai {c : Nat} (hc : (S.cls.lookup c).isSome = true) (h : tS S H0 B0 Γ0 W fr C (.rai c []) Z σ H) : W (.ref (S.cad c)) none σ H := by
  obtain ⟨env, g, B, Γ, ok0, sl, ce, s0, h⟩ := h
  exact h σ H B Γ (.ref (S.cad c)) none sl ce s0 .refl ⟨rfl, hc, rfl⟩
theorem clsB_ok {J : Tab} {sc : Scope} {c : Nat} {x : Str} (h : clsB J sc c x = true) : J.cls.lookup c = some x ∧ gliB sc x = true ∧ (x == ("__debug__" : Str)) = false := by
  unfold clsB at h
  rw [Bool.and_eq_true, Bool.and_eq_true] at h
  exact ⟨of_decide_eq_true h.1.1, h.1.2, by simpa using h.2⟩
theorem sndRai (L : Lnk S J n) {sc : Scope} (c : Ctx S n N sc none X W) {i : Nat} {p : Stmt} {x : Str} (ev : vRaise p = some x) (h : clsB J sc i x = true) : PS X p (tS S H0 B0 Γ0 W fr C (.rai i [])) := by
  obtain ⟨m, j, p1, p2, p3, p4, rfl⟩ := vRaise_ok ev
  obtain ⟨h1, h2, h3⟩ := clsB_ok h
  obtain ⟨e1, e2, e3, e4, e5⟩ := L.exc i x h1
  rw [← c.inn.K] at e2 e3 e4 e5
  rw [← c.inn.mg] at e1
  refine (ps_raise c.calm c.tk (pmk_own PySem.F.excBase_ValueError e2 e1 e3 (raises_own e4 e5) (c.gl h2) h3)).imp fun D σ H hh => law_rai (by rw [L.cls, h1]; rfl) hh
/-- the clauses: what each wishes -/
def hdL (S : Inf) (H0 : Hp) (B0 : Bad) (Γ0 : List Addr) (fr : Bool) (C : Nat → List D → Gs → R D) (hs : List (Nat × Option Nat × List St)) : List (Value × (Addr → Value → Option Addr → TS)) :=
  hs.map fun h => (.ref (S.cad h.1), fun _ _ _ => tSs S H0 B0 Γ0 WF0 fr C h.2.2)
theorem noX_ok {r : SR} (h : OutS S H0 B0 Γ0 W fr H B Γ r.noX Z) : OutS S H0 B0 Γ0 WF0 fr H B Γ r Z := by
  cases r with
  | exc c p env g => exact h.elim
  | _ => exact h
theorem wMany_of (L : Lnk S J n) {sc : Scope} {c : Nat} {p : D} {env' : Env} {g' : Gs} (ok0 : BadOk H0 B0 Γ0) : ∀ {hs : List (Nat × Option Nat × List St)} {ps : List ExceptHandler}, chkHds J N fr sc hs ps = true → OutS S H0 B0 Γ0 W fr H B Γ (evH C hs c p env' g') Z →
    ∀ σ' H' B' Γ' cls dd, Slots S H' B' Γ' H0 σ' env' → Cells S H' g' B' Γ' → Step H0 B0 Γ0 H' B' Γ' → Later H B Γ H' B' Γ' → ExR S H' B' Γ' c p cls dd → wMany S.K W Z (hdL S H0 B0 Γ0 fr C hs) cls dd σ' H'
  | [], _, _, h => fun σ' H' B' Γ' cls dd a b c d e => h σ' H' B' Γ' cls dd a b c d e
  | hd :: hs, [], hc, h => by cases hc
  | hd :: hs, q :: qs, hc, h => fun σ' H' B' Γ' cls dd sl ce st la ex => by
    have hc : ((match vHd q with
      | some (x, b, bs) => clsB J sc hd.1 x && decide (hd.2.1 = none) && chkSs (chkU N fr sc) hd.2.2 (b :: bs)
      | none => false) && chkHds J N fr sc hs qs) = true := hc
    rw [Bool.and_eq_true] at hc
    obtain ⟨hc, hr⟩ := hc
    cases ev : vHd q with
    | none => rw [ev] at hc; cases hc
    | some t =>
      obtain ⟨x, b, bs⟩ := t
      rw [ev] at hc
      have hc : (clsB J sc hd.1 x && decide (hd.2.1 = none) && chkSs (chkU N fr sc) hd.2.2 (b :: bs)) = true := hc
      rw [Bool.and_eq_true, Bool.and_eq_true] at hc
      obtain ⟨⟨h1, h2⟩, h3⟩ := hc
      have h2 := of_decide_eq_true h2
      obtain ⟨k1, _, _⟩ := clsB_ok h1
      obtain ⟨ec, eo, _⟩ := id ex
      rw [L.cls] at eo
      obtain ⟨y, k2⟩ := Option.isSome_iff_exists.mp eo
      have em := L.exm c y hd.1 x k2 k1
      have h : OutS S H0 B0 Γ0 W fr H B Γ (if (hd.1 == c || hd.1 == 0) = true then (match hd.2.1 with
        | none => (evSs C hd.2.2 env' g').noX
        | some i => ((evSs C hd.2.2 (setS env' i (.p p)) g').drop i).noX) else evH C hs c p env' g') Z := h
      rw [h2] at h
      refine ⟨exB c hd.1, by rw [ec]; exact em, fun hb a ha => ?_, fun hb => ?_⟩
      · have : (hd.1 == c || hd.1 == 0) = true := by
          unfold exB at hb
          rw [Bool.or_eq_true] at hb ⊢
          exact hb.imp (fun z => by rw [beq_iff_eq] at z ⊢; exact z.symm) id
        rw [if_pos this] at h
        exact ⟨env', g', B', Γ', ok0, sl, ce, st, noX_ok (OutS.mono la h)⟩
      · have : ¬ (hd.1 == c || hd.1 == 0) = true := fun z => by
          unfold exB at hb
          rw [Bool.or_eq_true] at z
          rw [Bool.or_eq_false_iff] at hb
          rcases z with z | z
          · rw [beq_iff_eq] at z
            rw [z] at hb
            simp at hb
          · rw [hb.2] at z; cases z
        rw [if_neg this] at h
        exact wMany_of L ok0 hr h σ' H' B' Γ' cls dd sl ce st la ex
theorem law_try (L : Lnk S J n) {sc : Scope} (i : In S X) {b : List St} {hs : List (Nat × Option Nat × List St)} {ps : List ExceptHandler} (hc : chkHds J N fr sc hs ps = true) (h : tS S H0 B0 Γ0 W fr C (.try_ b hs) Z σ H) :
    tSs S H0 B0 Γ0 (wMany X.K W Z (hdL S H0 B0 Γ0 fr C hs)) fr C b Z σ H := by
  obtain ⟨env, g, B, Γ, ok0, sl, ce, s0, h⟩ := h
  have h : OutS S H0 B0 Γ0 W fr H B Γ (match evSs C b env g with
    | .exc c p env' g' => evH C hs c p env' g'
    | r => r) Z := h
  refine ⟨env, g, B, Γ, ok0, sl, ce, s0, ?_⟩
  cases e : evSs C b env g with
  | exc c p env' g' =>
    rw [e] at h
    rw [i.K]
    exact wMany_of L ok0 hc h
  | nx env' g' => rw [e] at h; exact h
  | brk env' g' => rw [e] at h; exact h
  | cnt env' g' => rw [e] at h; exact h
  | ret d g' => rw [e] at h; exact h
  | no => rw [e] at h; exact h
/-- statements of an except suite -/
theorem sndU {sc : Scope} (c : Ctx S n N sc none X W) {a : Addr} {pn : List (Addr × Obj)} : ∀ (s : St) (p : Stmt), chkU N fr sc s p = true → PS (X.suite a pn) p (tS S H0 B0 Γ0 WF0 fr C s) := fun s p h => by
  unfold chkU at h
  split at h
  · cases p <;> first | exact ps_pass.imp fun D σ H hh => law_pass hh | cases h
  · split at h
    · rename_i v ev
      obtain ⟨pos, rfl⟩ := vRet_ok ev
      rw [Bool.and_eq_true] at h
      obtain ⟨v', h1, h2⟩ := litB_ok (S := S) (X := X.suite a pn) h.1
      refine (ps_ret (eok_lit h1 h2)).imp fun D σ H hh => law_ret (fun hf => ?_) hh
      have := h.2
      rw [hf] at this; cases this
    · cases h
  · split at h
    · rename_i v ev
      obtain ⟨pos, rfl⟩ := vExprS_ok ev
      split at h
      · rename_i x m q b em
        obtain ⟨np, ap, cp, rfl, hb⟩ := vMeth_ok em
        simp only [Bool.and_eq_true] at h
        obtain ⟨⟨⟨⟨h1, h2⟩, h3⟩, h4⟩, h5⟩ := h
        have h1 := of_decide_eq_true h1
        subst h1
        unfold nmB at h2
        rw [Bool.and_eq_true, Bool.and_eq_true] at h2
        obtain ⟨d1, d2⟩ := nmOk_ok h2.2
        have hv : PE (X.suite a pn) (.Name x np) (tVar _) := pe_var (X := X.suite a pn) (show X.N[_]? = some x by rw [c.eN]; exact of_decide_eq_true h2.1.1) (show Vis X.env.scope x by rw [c.eS]; exact visB_ok h2.1.2) d1 d2
        obtain ⟨v', g1, g2⟩ := litB_ok (S := S) (X := X.suite a pn) h5
        have ha : PA (X.suite a pn) [q] (tDs S H0 WF0 C [.lit _]) := aok_cons (eok_lit g1 g2) aok_nil (star_cons h4)
        refine (ps_expr (pe_bm PySem.F.plainAttrs_list PySem.F.slot_list_append PySem.F.type_list_append mt_append hv ha rfl (by rw [star_cons h4]; rfl) (hb.trans h3) (star_cons h4) rfl) rfl).imp fun D σ H hh => ?_
        have := law_app hh
        rw [← c.inn.K] at this
        exact this
      · cases h
    · cases h
  · split at h
    · rename_i tg v ev
      obtain ⟨pos, rfl⟩ := vAsg_ok ev
      split at h
      · rename_i x en
        obtain ⟨p, rfl⟩ := vName_ok en
        split at h
        · rename_i ea eb eb'
          obtain ⟨q, rfl⟩ := vBin_ok eb'
          split at h
          · rename_i y ey
            obtain ⟨r, rfl⟩ := vName_ok ey
            rw [Bool.and_eq_true, Bool.and_eq_true] at h
            obtain ⟨⟨h1, h2⟩, h3⟩ := h
            obtain ⟨a1, a2, a3⟩ := st_ok c h1
            unfold nmB at h2
            rw [Bool.and_eq_true, Bool.and_eq_true] at h2
            obtain ⟨d1, d2⟩ := nmOk_ok h2.2
            obtain ⟨v', g1, g2⟩ := litB_ok (S := S) (X := X.suite a pn) h3
            have hv : PE (X.suite a pn) (.Name y r) (tD S H0 WF0 C (.var _)) := eok_var (X := X.suite a pn) (show X.N[_]? = some y by rw [c.eN]; exact of_decide_eq_true h2.1.1) (show Vis X.env.scope y by rw [c.eS]; exact visB_ok h2.1.2) d1 d2
            have he := eok_op (X := X.suite a pn) (pos := q) (op_addR (X := X.suite a pn)) (show RO S (rAddR X.K) (op2 .add) by rw [c.inn.K]; exact ro_add) hv (eok_lit g1 g2)
            exact (ps_set (X := X.suite a pn) (show X.N.Nodup by rw [c.eN]; exact c.nd) a1 a2 he rfl a3).imp fun D σ H hh => law_asg hh
          · cases h
        · cases h
      · cases h
    · cases h
  · cases h
theorem sndHds (L : Lnk S J n) {sc : Scope} (c : Ctx S n N sc none X W) : ∀ (hs : List (Nat × Option Nat × List St)) (ps : List ExceptHandler), chkHds J N fr sc hs ps = true → HdsOk X ps (hdL S H0 B0 Γ0 fr C hs)
  | [], [], _ => .nil
  | [], _ :: _, h => by cases h
  | _ :: _, [], h => by cases h
  | hd :: hs, q :: qs, hc => by
    have hc : ((match vHd q with
      | some (x, b, bs) => clsB J sc hd.1 x && decide (hd.2.1 = none) && chkSs (chkU N fr sc) hd.2.2 (b :: bs)
      | none => false) && chkHds J N fr sc hs qs) = true := hc
    rw [Bool.and_eq_true] at hc
    obtain ⟨hc, hr⟩ := hc
    cases ev : vHd q with
    | none => rw [ev] at hc; cases hc
    | some t =>
      obtain ⟨x, b, bs⟩ := t
      rw [ev] at hc
      have hc : (clsB J sc hd.1 x && decide (hd.2.1 = none) && chkSs (chkU N fr sc) hd.2.2 (b :: bs)) = true := hc
      rw [Bool.and_eq_true, Bool.and_eq_true] at hc
      obtain ⟨⟨h1, h2⟩, h3⟩ := hc
      obtain ⟨p, r, rfl⟩ := vHd_ok ev
      obtain ⟨k1, k2, k3⟩ := clsB_ok h1
      obtain ⟨e1, _⟩ := L.exc hd.1 x k1
      rw [← c.inn.mg] at e1
      exact .cons ⟨c.gl k2, k3, .inl e1⟩ (fun a oe cls d pn _ _ => sndSs (fun s p h => sndU c s p h) _ _ h3) (sndHds L c hs qs hr)
end
end Rz

/-! RzS17 -/
set_option Elab.async false
set_option linter.all false
set_option maxRecDepth 100000
set_option maxHeartbeats 4000000
namespace Rz
open PySem PySem.Spec PyProof.Rows L2

/-! ### the check of statements, whole -/
def chkS (J : Tab) (N : List Str) (fr : Bool) (me : Nat) (sc : Scope) : Nat → St → Stmt → Bool
  | 0, _, _ => false
  | m + 1, s, p => match s with
    | .asg i e => match vAsg p with
      | some (ts, v) => chkAsg J N me sc i e ts v
      | none => false
    | .own i e => match vAsg p with
      | some (ts, v) => chkAsg J N me sc i e ts v && isF J.T e
      | none => false
    | .cel i e => match vAsg p with
      | some (ts, v) => chkAsg J N me sc i e ts v && isF J.T e
      | none => false
    | .asg2 i j e => match vAsg p with
      | some ([t1, t2], v) => chkNm N sc [i, j] [t1, t2] && chkE J N me sc none e v
      | _ => false
    | .unp t e => match vAsg p with
      | some ([tg], v) => noSD v && unpSw sc tg v && chkTg N sc none t tg && chkE J N me sc none e v
      | _ => false
    | .par ts es => match vAsg p with
      | some ([tg], v) => match vTup tg with
        | some ps => match vTup v with
          | some vs => chkPar (chkE J N me sc none) J.T N sc ts es ps vs
          | none => false
        | none => false
      | _ => false
    | .app i e => match vExprS p with
      | some v => match vMeth v with
        | some (x, a, q, b) => decide (a = ("append" : Str)) && nmB N sc i x && b && unst q && chkE J N me sc none e q
        | none => false
      | none => false
    | .setx i j e => match vAsg p with
      | some ([tg], v) => match vSub tg with
        | some (o, k) => match vName o with
          | some x => nmB N sc i x && noSl k && noSD v && chkE J N me sc none e v && chkE J N me sc none j k
          | none => false
        | none => false
      | _ => false
    | .ex e => match vExprS p with
      | some v => noComp v && chkE J N me sc none e v
      | none => false
    | .ite c a b => match vIfS p with
      | some (pc, pa, pb) => chkE J N me sc none c pc && chkSs (chkS J N fr me sc m) a pa && chkSs (chkS J N fr me sc m) b pb
      | none => false
    | .for_ t k es body => match vFor p with
      | some (tg, iter, pb) => chkIt (chkE J N me sc none) sc tg k es iter && chkTg N sc none t tg && chkSs (chkS J N fr me sc m) body pb && noSet iter
      | none => false
    | .whl c body => match vWhl p with
      | some (pc, pb) => chkE J N me sc none c pc && chkSs (chkS J N fr me sc m) body pb
      | none => false
    | .ret e => match vRet p with
      | some (some v) => chkE J N me sc none e v && (!fr || isF J.T e)
      | _ => false
    | .retN => match vRet p with
      | some none => true
      | _ => false
    | .rai c es => match es with
      | _ :: _ :: _ => true
      | [] => match vRaise p with
        | some x => clsB J sc c x
        | none => false
      | _ => false
    | .try_ b hs => match vTry p with
      | some (pb, ph :: phs) => chkSs (chkS J N fr me sc m) b pb && chkHds J N fr sc hs (ph :: phs)
      | _ => false
    | .pass => isPass p
    | .brk => isBrk p
    | .cnt => isCnt p
    | _ => false

section
variable {S : Inf} {J : Tab} {n : Nat} {N : List Str} {H0 : Hp} {B0 : Bad} {Γ0 : List Addr} {fr : Bool}
theorem strip_law {W : WX} {C : Nat → List D → Gs → R D} {σ : L2.St} {H : Hp} {Q : VK} : ∀ {e : Ex}, tD S H0 W C e σ H Q → tD S H0 W C (strip e) σ H Q
  | .fz is e, h => strip_law (e := e) (law_fz h)
  | .lit _, h => h
  | .var _, h => h
  | .glo _ _, h => h
  | .fnv _, h => h
  | .tup _, h => h
  | .lst _, h => h
  | .dic _ _, h => h
  | .op _ _ _, h => h
  | .neg _, h => h
  | .not _, h => h
  | .and_ _ _, h => h
  | .or_ _ _, h => h
  | .chain _ _ _ _ _, h => h
  | .chain3 _ _ _ _ _ _ _, h => h
  | .ite _ _ _, h => h
  | .call _ _, h => h
  | .bi _ _, h => h
  | .meth _ _ _, h => h
  | .ix _ _, h => h
  | .sl _ _ _, h => h
  | .comp _ _ _ _ _, h => h
  | .line _, h => h
structure CtxS (S : Inf) (n : Nat) (N : List Str) (sc : Scope) (X : Cx) (W : WX) : Prop extends Ctx S n N sc none X W where
  po : PassesOwn (model X.prog X.w) X.A X.env X.xe
  stk : X.stack = X.env :: X.outer
  frm : X.env.frame = some X.env.locals
theorem sole {tg v : Expr} {l : Nat} {env : PySem.Env} {b : Bool} (h : swapsWith v (some tg) l env = pure b) : swapsWithSole [tg] v l env = pure b := h
theorem sndAsg (L : Lnk S J n) {sc : Scope} {X : Cx} {W : WX} (c : CtxS S n N sc X W) {m i : Nat} {e : Ex} {ts : List Expr} {v : Expr} {pos : Pos} (h : chkAsg J N m sc i e ts v = true) : PS X (.Assign ts v pos) (tAsg (tD S H0 W (evF S.T n) e) (gName i)) := by
  unfold chkAsg at h
  split at h
  · rename_i tg v
    split at h
    · rename_i x ev
      obtain ⟨p, rfl⟩ := vName_ok ev
      rw [Bool.and_eq_true, Bool.and_eq_true] at h
      obtain ⟨⟨h1, h2⟩, h3⟩ := h
      obtain ⟨a1, a2, a3⟩ := st_ok c.toCtx h1
      have sw := fun l => swP_ok (line := l) c.eS c.kind (tg := .Name x p) h2
      cases hs : swP sc v (.Name x p) with
      | false =>
        rw [hs] at h3
        simp only [Bool.false_eq_true, if_false] at h3
        exact ps_set (by rw [c.eN]; exact c.nd) a1 a2 (sndE L m sc none X W e v c.toCtx h3).1 (by rw [sw, hs]) a3
      | true =>
        rw [hs] at h3
        simp only [if_true] at h3
        rw [Bool.and_eq_true] at h3
        obtain ⟨h4, h5⟩ := h3
        generalize hse : strip e = e' at h4 h5
        cases e' <;> try (cases h4; done)
        rename_i e1 t k es cs
        cases m with
        | zero => cases h5
        | succ m =>
          unfold chkE at h5
          split at h5
          · rename_i op p1 q evb
            have := vBool_ok evb
            subst this
            cases hs
          · dsimp only at h5
            split at h5
            · rename_i elt tg iter ifs scope q evc
              have := vComp_ok evc
              subst this
              simp only [Bool.and_eq_true] at h5
              obtain ⟨⟨⟨⟨⟨h1, h2⟩, h3⟩, h4⟩, h5⟩, h6⟩ := h5
              have hk := relS_kind h5
              have blk := blkB_ok h5
              have hl : X.env.scope.names.lookup x = some .local := by
                have hs : (isK sc x .local && (p.line == q.line) && _) = true := hs
                rw [Bool.and_eq_true, Bool.and_eq_true] at hs
                rw [c.eS]; exact isK_ok hs.1.1
              have his : PI X tg iter (tIt S H0 W (evF S.T n) k es) := sndIt c.toCtx L (fun e p h => (sndE L m sc none X W e p c.toCtx h).1) h3
              have hts : ∀ (s : Shared) (H : Hp) (Cl : Addr) (cl : List (Str × Addr)) (fp : List Addr), PTs (X.blk s H scope (compEnvC scope cl Cl X.env) fp) ifs (tCd S H0 WF0 (evF S.T n) cs) := fun s H Cl cl fp => by
                unfold chkC at h4
                split at h4
                · exact cok_nil
                · exact cok_one (sndE L m _ _ _ _ _ _ (c.blk hk s H Cl cl fp) h4).2.1
                · cases h4
              have hes : ∀ (s : Shared) (H : Hp) (Cl : Addr) (cl : List (Str × Addr)) (fp : List Addr), PE (X.blk s H scope (compEnvC scope cl Cl X.env) fp) elt (tD S H0 WF0 (evF S.T n) e1) := fun s H Cl cl fp => (sndE L m _ _ _ _ e1 elt (c.blk hk s H Cl cl fp) h1).1
              refine (ps_setLc c.calm (by rw [c.eN]; exact c.nd) a1 hl (by rw [sw, hs]) his (by rw [c.eN, c.eS]; exact blk) (fun s H Cl cl fp => sndTg (c.blk hk s H Cl cl fp) t tg h2) hts hes (noSet_ok h6)).imp fun D σ H hh => ?_
              have q := strip_law hh
              rw [hse] at q
              rw [ownOf_ix]
              exact lc_law q
            · cases h5
    · cases h
  · cases h
theorem sndNm {sc : Scope} {X : Cx} {W : WX} (c : CtxS S n N sc X W) : ∀ (js : List Nat) (ps : List Expr), chkNm N sc js ps = true → PGs X ps (gNames js) ∧ ps.all unst = true ∧ ps.length = js.length ∧ Paired (fun x j => X.N[j]? = some x) (namesOf ps) js
  | [], [], _ => ⟨pgs_nil, rfl, rfl, .nil⟩
  | [], _ :: _, h => by cases h
  | _ :: _, [], h => by cases h
  | j :: js, p :: ps, h => by
    have h : ((match vName p with | some x => unst p && stB N sc none j x | none => false) && chkNm N sc js ps) = true := h
    rw [Bool.and_eq_true] at h
    obtain ⟨h1, h2⟩ := h
    obtain ⟨q1, q2, q3, q4⟩ := sndNm c js ps h2
    cases ev : vName p with
    | none => rw [ev] at h1; cases h1
    | some x =>
      rw [ev] at h1
      have h1 : (unst p && stB N sc none j x) = true := h1
      rw [Bool.and_eq_true] at h1
      obtain ⟨a1, a2, a3⟩ := st_ok c.toCtx h1.2
      obtain ⟨pp, rfl⟩ := vName_ok ev
      refine ⟨pgs_cons (pg_name (by rw [c.eN]; exact c.nd) a1 a2 a3) q1 (by rw [assign_cons rfl]; rfl), by rw [List.all_cons, q2]; rfl, by rw [List.length_cons, List.length_cons, q3], ?_⟩
      exact .cons a1 q4
theorem sndAs {W : WX} {X : Cx} {C : Nat → List D → Gs → R D} {f : Ex → Expr → Bool} (hf : ∀ e p, f e p = true → PE X p (tD S H0 W C e)) : ∀ (es : List Ex) (ps : List Expr), chkL f es ps = true → PA X ps (tAs S H0 W C es)
  | [], [], _ => pa_nil
  | [], _ :: _, h => by cases h
  | _ :: _, [], h => by cases h
  | e :: es, p :: ps, h => by
    have h : (unst p && f e p && chkL f es ps) = true := h
    rw [Bool.and_eq_true, Bool.and_eq_true] at h
    exact pa_cons (hf e p h.1.2) (sndAs hf es ps h.2) (star_cons h.1.1)
theorem ownF_ok {T : Nat → Option Fn} : ∀ (ts : List (Bool × Nat)) (es : List Ex), ownF T ts es = true → ∀ (k : Nat) (e : Ex), (ts.map (·.1))[k]? = some true → es[k]? = some e → isF T e = true
  | [], es, _, k, e, h1, _ => by simp at h1
  | _ :: _, [], _, k, e, _, h2 => by simp at h2
  | t :: ts, x :: es, h, k, e, h1, h2 => by
    have h : ((!t.1 || isF T x) && ownF T ts es) = true := h
    rw [Bool.and_eq_true] at h
    cases k with
    | zero =>
      simp at h1 h2
      subst h2
      have := h.1
      rw [h1] at this
      simpa using this
    | succ k => exact ownF_ok ts es h.2 k e (by simpa using h1) (by simpa using h2)
theorem sndPar (L : Lnk S J n) {sc : Scope} {X : Cx} {W : WX} (c : CtxS S n N sc X W) {f : Ex → Expr → Bool} (hf : ∀ e p, f e p = true → PE X p (tD S H0 W (evF S.T n) e)) {ts : List (Bool × Nat)} {es : List Ex} {ps vs : List Expr} {k1 k2 : Nat} {p1 p2 pos : Pos}
    (h : chkPar f J.T N sc ts es ps vs = true) : PS X (.Assign [.Tuple ps k1 p1] (.Tuple vs k2 p2) pos) (tS S H0 B0 Γ0 W fr (evF S.T n) (.par ts es)) := by
  unfold chkPar at h
  simp only [Bool.and_eq_true] at h
  obtain ⟨⟨⟨⟨⟨⟨h1, h2⟩, h3⟩, h4⟩, h5⟩, h6⟩, h7⟩ := h
  obtain ⟨q1, q2, q3, q4⟩ := sndNm c _ _ h2
  have hnd := of_decide_eq_true h3
  have hl := of_decide_eq_true h4
  rw [← L.T] at h5
  have hof := ownF_ok ts es h5
  have hz := Nat.le_of_ble_eq_true h6
  have hs : swapsWithSole [.Tuple ps k1 p1] (.Tuple vs k2 p2) pos.line X.env = pure false := rfl
  cases es2 : swNames sc ps vs with
  | none => rw [es2] at h7; cases h7
  | some r =>
    rw [es2] at h7
    have hw := swNames_ok (k1 := k1) (k2 := k2) (p1 := p1) (p2 := p2) c.eS c.kind es2
    cases r with
    | none => exact (ps_parB c.calm hnd q1 (by rw [assign_len q2, q3]) (assign_nost q2) (sndAs hf es vs h1) hw hs (by rw [assign_cons rfl]; rfl)).imp fun D σ H hh => law_par hnd hl hof hz hh
    | some names =>
      have h7 : (decide (names = namesOf ps) && names.all fun x => isK sc x .local) = true := h7
      rw [Bool.and_eq_true, List.all_eq_true] at h7
      have hn := of_decide_eq_true h7.1
      subst hn
      exact (ps_parA c.calm (by rw [c.eN]; exact c.nd) q4 hnd (fun x hx => by rw [c.eS]; exact isK_ok (h7.2 x hx)) (sndAs hf es vs h1) hw hs).imp fun D σ H hh => law_par hnd hl hof hz hh
theorem swP_sub {sc : Scope} {v o k : Expr} {p : Pos} : swP sc v (.Subscript o k p) = false := by
  cases v <;> rfl
theorem swP_tup {sc : Scope} {v : Expr} {es : List Expr} {k : Nat} {p : Pos} : swP sc v (.Tuple es k p) = false := by
  cases v <;> rfl
theorem sndS (L : Lnk S J n) (me : Nat) {sc : Scope} {X : Cx} {W : WX} (c : CtxS S n N sc X W) : ∀ (m : Nat) (s : St) (p : Stmt), chkS J N fr me sc m s p = true → PS X p (tS S H0 B0 Γ0 W fr (evF S.T n) s)
  | 0, s, p, h => by cases h
  | m + 1, s, p, h => by
    have ihE : ∀ e p, chkE J N me sc none e p = true → PE X p (tD S H0 W (evF S.T n) e) := fun e p h => (sndE L me sc none X W e p c.toCtx h).1
    have ihT : ∀ e p, chkE J N me sc none e p = true → PT X p (tDT S H0 W (evF S.T n) e) := fun e p h => (sndE L me sc none X W e p c.toCtx h).2.1
    have ihS : ∀ ss ps, chkSs (chkS J N fr me sc m) ss ps = true → PSs X ps (tSs S H0 B0 Γ0 W fr (evF S.T n) ss) := fun ss ps h => sndSs (fun s p h => sndS L me c m s p h) ss ps h
    have hN : X.N.Nodup := by rw [c.eN]; exact c.nd
    have sT : ∀ {e : Ex}, isF J.T e = true → isF S.T e = true := fun {e} h => by rw [L.T]; exact h
    unfold chkS at h
    split at h
    · -- asg
      split at h
      · rename_i ts v ev
        obtain ⟨pos, rfl⟩ := vAsg_ok ev
        exact (sndAsg L c h).imp fun D σ H hh => law_asg hh
      · cases h
    · -- own
      split at h
      · rename_i ts v ev
        obtain ⟨pos, rfl⟩ := vAsg_ok ev
        rw [Bool.and_eq_true] at h
        exact (sndAsg L c h.1).imp fun D σ H hh => law_own (sT h.2) hh
      · cases h
    · -- cel
      split at h
      · rename_i ts v ev
        obtain ⟨pos, rfl⟩ := vAsg_ok ev
        rw [Bool.and_eq_true] at h
        exact (sndAsg L c h.1).imp fun D σ H hh => law_cel (sT h.2) hh
      · cases h
    · -- asg2
      split at h
      · rename_i i j e _ t1 t2 v ev
        obtain ⟨pos, rfl⟩ := vAsg_ok ev
        rw [Bool.and_eq_true] at h
        have h1 : ((match vName t1 with | some x => unst t1 && stB N sc none i x | none => false) && ((match vName t2 with | some x => unst t2 && stB N sc none j x | none => false) && true)) = true := h.1
        rw [Bool.and_true, Bool.and_eq_true] at h1
        obtain ⟨h1, h2⟩ := h1
        cases ev1 : vName t1 with
        | none => rw [ev1] at h1; cases h1
        | some x =>
          cases ev2 : vName t2 with
          | none => rw [ev2] at h2; cases h2
          | some y =>
            rw [ev1] at h1; rw [ev2] at h2
            have h1 : (unst t1 && stB N sc none i x) = true := h1
            have h2 : (unst t2 && stB N sc none j y) = true := h2
            rw [Bool.and_eq_true] at h1 h2
            obtain ⟨a1, a2, a3⟩ := st_ok c.toCtx h1.2
            obtain ⟨b1, b2, b3⟩ := st_ok c.toCtx h2.2
            obtain ⟨p1, rfl⟩ := vName_ok ev1
            obtain ⟨p2, rfl⟩ := vName_ok ev2
            exact (ps_asg2 (ihE _ _ h.2) (pg_name hN a1 a2 a3) (pg_name hN b1 b2 b3) rfl rfl).imp fun D σ H hh => law_asg2 hh
      · cases h
    · -- unp
      split at h
      · rename_i t e _ tg v ev
        obtain ⟨pos, rfl⟩ := vAsg_ok ev
        simp only [Bool.and_eq_true] at h
        obtain ⟨⟨⟨h1, h2⟩, h3⟩, h4⟩ := h
        unfold unpSw at h2
        cases et : vTup tg with
        | none => rw [et] at h2; cases h2
        | some ps =>
          rw [et] at h2
          obtain ⟨k1, p1, rfl⟩ := vTup_ok et
          have hs : swapsWithSole [.Tuple ps k1 p1] v pos.line X.env = pure false := sole (by rw [swP_ok c.eS c.kind h1, swP_tup])
          have hw : swappedStores [.Tuple ps k1 p1] v X.env = pure none := by
            cases evt : vTup v with
            | none =>
              rw [evt] at h2
              exact sw_noV (by simpa using h2)
            | some vs =>
              rw [evt] at h2
              obtain ⟨k2, p2, rfl⟩ := vTup_ok evt
              exact swNames_ok c.eS c.kind (of_decide_eq_true h2)
          exact (ps_asg (ihE _ _ h4) (sndTg c.toCtx t _ h3) hs hw (by rw [assign_cons rfl]; rfl)).imp fun D σ H hh => law_unp hh
      · cases h
    · -- par
      split at h
      · rename_i ts es _ tg v ev
        obtain ⟨pos, rfl⟩ := vAsg_ok ev
        split at h
        · rename_i ps et
          obtain ⟨k1, p1, rfl⟩ := vTup_ok et
          split at h
          · rename_i vs evt
            obtain ⟨k2, p2, rfl⟩ := vTup_ok evt
            exact sndPar L c ihE h
          · cases h
        · cases h
      · cases h
    · -- app
      split at h
      · rename_i i e _ v ev
        obtain ⟨pos, rfl⟩ := vExprS_ok ev
        split at h
        · rename_i x a q b em
          obtain ⟨np, ap, cp, rfl, hb⟩ := vMeth_ok em
          simp only [Bool.and_eq_true] at h
          obtain ⟨⟨⟨⟨h1, h2⟩, h3⟩, h4⟩, h5⟩ := h
          have h1 := of_decide_eq_true h1
          subst h1
          unfold nmB at h2
          rw [Bool.and_eq_true, Bool.and_eq_true] at h2
          obtain ⟨d1, d2⟩ := nmOk_ok h2.2
          have hv : PE X (.Name x np) (tVar i) := pe_var (by rw [c.eN]; exact of_decide_eq_true h2.1.1) (by rw [c.eS]; exact visB_ok h2.1.2) d1 d2
          have ha : PA X [q] (tDs S H0 W (evF S.T n) [e]) := aok_cons (ihE _ _ h5) aok_nil (star_cons h4)
          refine (ps_expr (pe_bm PySem.F.plainAttrs_list PySem.F.slot_list_append PySem.F.type_list_append mt_append hv ha rfl (by rw [star_cons h4]; rfl) (hb.trans h3) (star_cons h4) rfl) rfl).imp fun D σ H hh => ?_
          have := law_app hh
          rw [← c.inn.K] at this
          exact this
        · cases h
      · cases h
    · -- setx
      split at h
      · rename_i i j e _ tg v ev
        obtain ⟨pos, rfl⟩ := vAsg_ok ev
        split at h
        · rename_i o k es
          obtain ⟨p1, rfl⟩ := vSub_ok es
          split at h
          · rename_i x en
            obtain ⟨p2, rfl⟩ := vName_ok en
            simp only [Bool.and_eq_true] at h
            obtain ⟨⟨⟨⟨h1, h2⟩, h3⟩, h4⟩, h5⟩ := h
            unfold nmB at h1
            rw [Bool.and_eq_true, Bool.and_eq_true] at h1
            obtain ⟨d1, d2⟩ := nmOk_ok h1.2
            have hv : PE X (.Name x p2) (tVar i) := pe_var (by rw [c.eN]; exact of_decide_eq_true h1.1.1) (by rw [c.eS]; exact visB_ok h1.1.2) d1 d2
            have hs : swapsWithSole [.Subscript (.Name x p2) k p1] v pos.line X.env = pure false := sole (by rw [swP_ok c.eS c.kind h3, swP_sub])
            refine (ps_asg (ihE _ _ h4) (pg_sub hv (ihE _ _ h5) (set_R (Nat.lt_of_le_of_lt (by omega) c.room.units)) (fun w => ?_)) hs rfl rfl).imp fun D σ H hh => law_setx hh
            cases k <;> first | rfl | cases h2
          · cases h
        · cases h
      · cases h
    · -- ex
      split at h
      · rename_i e _ v ev
        obtain ⟨pos, rfl⟩ := vExprS_ok ev
        rw [Bool.and_eq_true] at h
        exact (ps_expr (ihE _ _ h.2) (noComp_ok h.1)).imp fun D σ H hh => law_ex hh
      · cases h
    · -- ite
      split at h
      · rename_i e a b _ pc pa pb ev
        obtain ⟨pos, rfl⟩ := vIfS_ok ev
        rw [Bool.and_eq_true, Bool.and_eq_true] at h
        exact (ps_if (ihT _ _ h.1.1) (ihS _ _ h.1.2) (ihS _ _ h.2)).imp fun D σ H hh => law_ite hh
      · cases h
    · -- for
      split at h
      · rename_i t k es body _ tg iter pb ev
        obtain ⟨pos, rfl⟩ := vFor_ok ev
        simp only [Bool.and_eq_true] at h
        obtain ⟨⟨⟨h1, h2⟩, h3⟩, h4⟩ := h
        exact (ps_for c.po c.calm (sndIt c.toCtx L ihE h1) (sndTg c.toCtx t tg h2) (ihS _ _ h3) (noSet_ok h4)).imp fun D σ H hh => law_for hh
      · cases h
    · -- while
      split at h
      · rename_i e body _ pc pb ev
        obtain ⟨pos, rfl⟩ := vWhl_ok ev
        rw [Bool.and_eq_true] at h
        exact (ps_while c.po (ihT _ _ h.1) (ihS _ _ h.2)).imp fun D σ H hh => law_whl hh
      · cases h
    · -- ret
      split at h
      · rename_i e _ v ev
        obtain ⟨pos, rfl⟩ := vRet_ok ev
        rw [Bool.and_eq_true] at h
        refine (ps_ret (ihE _ _ h.1)).imp fun D σ H hh => law_ret (fun hf => ?_) hh
        have := h.2
        rw [hf] at this
        exact sT (by simpa using this)
      · cases h
    · -- retN
      split at h
      · rename_i _ ev
        obtain ⟨pos, rfl⟩ := vRet_ok ev
        exact ps_retN.imp fun D σ H hh => law_retN hh
      · cases h
    · -- raise
      split at h
      · exact ps_never.imp fun D σ H hh => law_never hh
      · split at h
        · rename_i x ev
          exact sndRai L c.toCtx ev h
        · cases h
      · cases h
    · -- try
      split at h
      · rename_i pb ph phs ev
        obtain ⟨pos, rfl⟩ := vTry_ok ev
        rw [Bool.and_eq_true] at h
        refine (ps_try_many (tb := fun W' => tSs S H0 B0 Γ0 W' fr (evF S.T n) _) c.stk c.frm c.tk (fun W' pn xe tk po => ?_) (sndHds L c.toCtx _ _ h.2)).imp fun D σ H hh => law_try L c.inn h.2 hh
        have c' : CtxS S n N sc (X.tr pn xe) W' :=
          { inn := ⟨c.inn.P, c.inn.w, c.inn.K, c.inn.mg, c.inn.base⟩, eN := c.eN, eS := c.eS, calm := c.calm, nd := c.nd, room := c.room, tk := tk, kind := c.kind, fn := c.fn, po := po, stk := c.stk, frm := c.frm }
        exact sndSs (fun s p h => sndS L me c' m s p h) _ _ h.1
      · cases h
    · cases p <;> first | exact ps_pass.imp fun D σ H hh => law_pass hh | cases h
    · cases p <;> first | exact ps_break.imp fun D σ H hh => law_brk hh | cases h
    · cases p <;> first | exact ps_continue.imp fun D σ H hh => law_cnt hh | cases h
    · cases h
end
end Rz

/-! RzS18 -/
set_option Elab.async false
set_option linter.all false
set_option maxRecDepth 100000
set_option maxHeartbeats 4000000
namespace Rz
open PySem PySem.Spec PyProof.Rows L2

/-! ### a def keeps its promise -/
def scB (N P : List Str) (sc : Scope) : Bool :=
  decide (sc.kind = .function) && !sc.isCoroutine && !sc.isGenerator && decide N.Nodup && decide (N.take P.length = P) && (P.all fun x => isK sc x .local || isK sc x .cell) && (sc.names.all fun y => !(decide (y.2 = .free)))
theorem scB_ok {N P : List Str} {sc : Scope} (h : scB N P sc = true) : FnScope N P sc := by
  unfold scB at h
  simp only [Bool.and_eq_true, List.all_eq_true] at h
  obtain ⟨⟨⟨⟨⟨⟨h1, h2⟩, h3⟩, h4⟩, h5⟩, h6⟩, h7⟩ := h
  refine ⟨of_decide_eq_true h1, by simpa using h2, by simpa using h3, of_decide_eq_true h4, of_decide_eq_true h5, fun x hx => ?_, fun y hy e => ?_⟩
  · have := h6 x hx
    rw [Bool.or_eq_true] at this
    exact this.imp isK_ok isK_ok
  · have := h7 y hy
    rw [e] at this
    simp at this
def chkF (J : Tab) (me : Nat) (P N : List Str) (F : Fn) (sc : Scope) (body : List Stmt) : Bool :=
  scB N P sc && decide (P.length = F.np) && decide (N.length = F.nl) && chkSs (chkS J N F.fr me sc me) F.body body
section
variable {S : Inf} {J : Tab}
theorem slots_entry {H : Hp} {B : Bad} {Γ : List Addr} {F : Fn} {N : List Str} {vs : List V} {ds : List D} (r : Reps S H B Γ vs ds) (hN : N.length = F.nl) : Slots S H B Γ H (start N vs) (entry F ds) := by
  have g1 : ∀ (ds : List D) (k i : Nat), getS (ds.map Sl.p ++ List.replicate k Sl.u) i = match ds[i]? with | some d => .p d | none => .u := fun ds => by
    induction ds with
    | nil =>
      intro k
      induction k with
      | zero => intro i; simp [getS]
      | succ k ih => intro i; cases i with
        | zero => simp [getS, List.replicate_succ]
        | succ i => have := ih i; simpa [getS, List.replicate_succ] using this
    | cons d ds ih =>
      intro k i
      cases i with
      | zero => simp [getS]
      | succ i => have := ih k i; simpa [getS] using this
  refine ⟨?_, fun i => ?_, fun i j a _ hi => ?_⟩
  · unfold L2.start entry
    rw [List.length_append, List.length_append, List.length_map, List.length_map, List.length_replicate, List.length_replicate, r.length, hN]
  · unfold entry
    rw [g1]
    cases e : ds[i]? with
    | none => trivial
    | some d =>
      obtain ⟨v, e1, q⟩ := r.get e
      refine ⟨v, ?_, q⟩
      unfold L2.start
      rw [List.getElem?_append_left (by rw [List.length_map]; exact (List.getElem?_eq_some_iff.mp e1).1), List.getElem?_map, e1]
      rfl
  · unfold entry at hi
    rw [g1] at hi
    cases e : ds[i]? with
    | none => rw [e] at hi; exact hi.elim
    | some d => rw [e] at hi; exact hi.elim
theorem def_zero (f : Nat) : Def S 0 f := ⟨⟨fun vs H Q E ⟨ds, g, B, Γ, hl, r, _⟩ => by rw [r.length]; exact hl, fun A outer s H args us vs Q E hr he hb hv ⟨ds, g, B, Γ, hl, r, ce, h⟩ => h.elim⟩⟩
theorem def_succ {n f me : Nat} {x qual : Str} {params : Arguments} {body : List Stmt} {scope : Scope} {dvs : List V} {kws : List (Str × V)} {F : Fn} {N : List Str} (L : Lnk S J n) (FD : FunD S.K x qual params body scope dvs kws (S.fad f) (S.fd f)) (hT : S.T f = some F)
    (h : chkF J me (S.ps f) N F scope body = true) : Def S (n + 1) f := by
  unfold chkF at h
  simp only [Bool.and_eq_true] at h
  obtain ⟨⟨⟨h1, h2⟩, h3⟩, h4⟩ := h
  have sc := scB_ok h1
  have h2 := of_decide_eq_true h2
  have h3 := of_decide_eq_true h3
  refine ⟨FD.ok sc (fun vs H Q E ⟨ds, g, B, Γ, hl, r, _⟩ => by rw [r.length]; exact hl) fun cdv A outer s H vs Q E hr ⟨ds, g, B, Γ, hl, r, ce, h⟩ => ?_⟩
  have cx : CtxS S n N scope (cxOf (L2.CX S.P S.w) S.P S.w S.K S.mg S.base N qual scope (S.fad f) cdv A outer s H E) (fun cls d _ H => E cls d H) :=
    { inn := ⟨rfl, rfl, rfl, rfl, rfl⟩, eN := rfl, eS := rfl, calm := rfl, nd := sc.nd, room := hr, tk := takes_of rfl rfl rfl rfl, kind := sc.kind, fn := fun _ _ => rfl, po := passes_of rfl, stk := rfl, frm := rfl }
  refine ⟨tSs S H B Γ (fun cls d _ H => E cls d H) F.fr (evF S.T n) F.body, sndSs (fun st p q => sndS L me cx me st p q) _ _ h4, entry F ds, g, B, Γ, ce.ok, slots_entry r h3, ce, .refl, ?_⟩
  have hfr : frOf S.T f = F.fr := by unfold frOf; rw [hT]
  have h : Out S [] (fun cls dd _ H => E cls dd H) H B Γ (match S.T f with | some F => runF (evF S.T n) F ds g | none => .no) _ := h
  rw [hT, hfr] at h
  have hb : (ds.length == F.np) = true := by rw [hl, h2]; simp
  have h : Out S [] (fun cls dd _ H => E cls dd H) H B Γ (if (ds.length == F.np) = true then outR (evSs (evF S.T n) F.body (entry F ds) g) else .no) _ := h
  rw [if_pos hb] at h
  cases e : evSs (evF S.T n) F.body (entry F ds) g with
  | nx env' g' => rw [e] at h; exact fun σ' H' B' Γ' sl c s l => h H' B' Γ' c s .non .non fun _ => trivial
  | brk env' g' => rw [e] at h; exact h.elim
  | cnt env' g' => rw [e] at h; exact h.elim
  | ret d g' => rw [e] at h; exact fun H' B' Γ' v c s r f => h H' B' Γ' c s v r f
  | exc c p env' g' => rw [e] at h; exact fun σ' H' B' Γ' cls dd sl c s l x => h H' B' Γ' cls dd c s x
  | no => rw [e] at h; exact h.elim
/-- what a row gives for the defs that are told of -/
structure Facts (S : Inf) (J : Tab) : Prop where
  T : S.T = J.T
  fun_ : ∀ f x k, J.nam f = some (x, k) → Nm S f ∧ S.nam f = x ∧ (S.ps f).length = k ∧ ∃ (F : Fn) (me : Nat) (N : List Str) (qual : Str) (params : Arguments) (body : List Stmt) (scope : Scope) (dvs : List V) (kws : List (Str × V)),
    S.T f = some F ∧ FunD S.K x qual params body scope dvs kws (S.fad f) (S.fd f) ∧ chkF J me (S.ps f) N F scope body = true
  glo : ∀ x d, (x, d) ∈ J.glo → ∃ v u, S.mg (sOf x) = some u ∧ RelV v u ∧ ∀ H B Γ, Rep S H B Γ v d
  blt : ∀ x, x ∈ blts → S.mg x = none
  cls : S.cls = J.cls
  exc : ∀ c x, J.cls.lookup c = some x → S.mg x = some (.ref (S.cad c)) ∧ PySem.W.excIn S.K (S.cad c) He.veBase "ValueError.__new__" = true ∧ PySem.W.keepIn S.K (.ref (S.cad c)) = true ∧ PySem.W.subIn S.K (.ref (S.cad c)) (.type "BaseException") = some true ∧ PySem.W.typeIn S.K (.ref (S.cad c)) = some (.type "type")
  exm : ∀ c x d y, J.cls.lookup c = some x → J.cls.lookup d = some y → PySem.W.exmOne S.K (.ref (S.cad c)) (.ref (S.cad d)) = some (exB c d)
theorem Facts.lnk (c : Facts S J) : ∀ n, Lnk S J n
  | 0 => ⟨c.T, fun f x k h => let ⟨a, b, d, _⟩ := c.fun_ f x k h; ⟨def_zero f, a, b, d⟩, c.glo, c.blt, c.cls, c.exc, c.exm⟩
  | n + 1 => ⟨c.T, fun f x k h => let ⟨a, b, d, F, me, N, q, ps, body, scope, dvs, kws, e1, e2, e3⟩ := c.fun_ f x k h; ⟨def_succ (Facts.lnk c n) e2 e1 e3, a, b, d⟩, c.glo, c.blt, c.cls, c.exc, c.exm⟩
end
end Rz

/-! RzS19 -/
set_option Elab.async false
set_option linter.all false
set_option maxRecDepth 100000
set_option maxHeartbeats 4000000
namespace Rz
open PySem PySem.Spec PyProof.Rows L2

/-! ### constants of the top -/
mutual
theorem repB_ok {K : PySem.W.Frag} : ∀ (d : D) (u : Value), repB K d u = true → ∃ v, RelV v u ∧ ∀ S : Inf, S.K = K → ∀ H B Γ, Rep S H B Γ v d
  | .non, u, h => by cases u <;> first | exact ⟨.non, rfl, fun _ _ _ _ _ => .non⟩ | cases h
  | .bl b, u, h => by
    cases u with
    | bool c => have h : (b == c) = true := h; have : b = c := by simpa using h
                subst this; exact ⟨.bl b, rfl, fun _ _ _ _ _ => .bl b⟩
    | _ => cases h
  | .int i, u, h => by
    cases u with
    | int j t => have h : i = j := of_decide_eq_true h
                 subst h; exact ⟨.int i, ⟨t, rfl⟩, fun _ _ _ _ _ => .int i⟩
    | _ => cases h
  | .str s, u, h => by
    cases u with
    | str x t => have h : sOf s = x := of_decide_eq_true h
                 subst h; exact ⟨.str _, ⟨t, rfl⟩, fun _ _ _ _ _ => .str s⟩
    | _ => cases h
  | .tup ds, u, h => by
    cases u with
    | ref a =>
      unfold repB at h
      cases e : K.lookup a with
      | none => rw [e] at h; cases h
      | some o =>
        obtain ⟨oc, od, dt, osl⟩ := o
        rw [e] at h
        cases oc with
        | type c =>
          cases dt with
          | seq its n =>
            have h : (decide (c = "tuple") && decide (its.size ≤ sizeLine) && repBs K ds its.toList) = true := h
            rw [Bool.and_eq_true, Bool.and_eq_true] at h
            obtain ⟨⟨h1, h2⟩, h3⟩ := h
            obtain ⟨vs, q1, q2⟩ := repBs_ok ds its.toList h3
            refine ⟨.ref a, rfl, fun S hS H B Γ => .tup (.inr ⟨_, its, n, by rw [hS]; exact e, congrArg Value.type (of_decide_eq_true h1), rfl, of_decide_eq_true h2, q1⟩) (q2 S hS H B Γ)⟩
          | _ => cases h
        | _ => cases h
    | _ => cases h
  | .lst _, u, h => by cases u <;> cases h
  | .dic _ _, u, h => by cases u <;> cases h
  | .fn _, u, h => by cases u <;> cases h
  | .mref _, u, h => by cases u <;> cases h
  | .scr _, u, h => by cases u <;> cases h
theorem repBs_ok {K : PySem.W.Frag} : ∀ (ds : List D) (us : List Value), repBs K ds us = true → ∃ vs, Vals vs us ∧ ∀ S : Inf, S.K = K → ∀ H B Γ, Reps S H B Γ vs ds
  | [], [], _ => ⟨[], .nil, fun _ _ _ _ _ => .nil⟩
  | [], _ :: _, h => by cases h
  | _ :: _, [], h => by cases h
  | d :: ds, u :: us, h => by
    have h : (repB K d u && repBs K ds us) = true := h
    rw [Bool.and_eq_true] at h
    obtain ⟨v, q1, q2⟩ := repB_ok d u h.1
    obtain ⟨vs, q3, q4⟩ := repBs_ok ds us h.2
    exact ⟨v :: vs, .cons q1 q3, fun S hS H B Γ => .cons (q2 S hS H B Γ) (q4 S hS H B Γ)⟩
end
theorem constB_ok {K : PySem.W.Frag} {h : Heap} {mg : Str → Option Value} {x : Str} {d : D} (X : K.In h) (G : h.Ns mainGlobals mg) (c : constB K x d = true) : ∃ v u, mg x = some u ∧ RelV v u ∧ ∀ S : Inf, S.K = K → ∀ H B Γ, Rep S H B Γ v d := by
  unfold constB at c
  cases e : PySem.W.nsIn K mainGlobals x with
  | none => rw [e] at c; cases c
  | some o =>
    cases o with
    | none => rw [e] at c; cases c
    | some u =>
      rw [e] at c
      obtain ⟨v, q1, q2⟩ := repB_ok d u c
      exact ⟨v, u, PySem.W.mg_of X G e, q1, q2⟩
theorem lookN_mem {α : Type} {c : Nat} {x : α} : ∀ {l : List (Nat × α)}, l.lookup c = some x → (c, x) ∈ l
  | [], h => by cases h
  | (d, y) :: l, h => by
    rw [List.lookup_cons] at h
    by_cases e : c = d
    · subst e
      simp at h
      subst h
      exact List.mem_cons_self ..
    · have : (c == d) = false := by simpa using e
      rw [this] at h
      exact List.mem_cons_of_mem _ (lookN_mem h)
/-! ### the rows of a law -/
inductive AllP {α : Type} (P : α → Prop) : List α → Prop
  | nil : AllP P []
  | cons {a : α} {l : List α} : P a → AllP P l → AllP P (a :: l)
theorem AllP.get {α : Type} {P : α → Prop} {l : List α} (h : AllP P l) : ∀ a ∈ l, P a := by
  induction h with
  | nil => intro a ha; cases ha
  | cons p _ ih =>
    intro a ha
    rcases List.mem_cons.mp ha with rfl | ha
    · exact p
    · exact ih a ha
def BindOk (P : Program) (r : Rw) : Prop := ∀ (kV doc pm : Value) (an : Option Addr) (cdv ct : Value) (us : List Value), us.length = r.ps.length →
  bindArgs (PySem.W.fnOf r.name r.name (defArgs (topOf P r.at_)) (defBody (topOf P r.at_)) (defScope (topOf P r.at_)) .none kV doc pm an cdv ct) ⟨us, []⟩ = pure (r.ps.zip us)
def fdK (K : PySem.W.Frag) (a : Addr) : Option FuncData := match K.lookup a with
  | some ⟨_, _, .func fd, _⟩ => some fd
  | _ => none
def infOf (P : Program) (w : World) (K : PySem.W.Frag) (mg : Str → Option Value) (base : Heap) (rows : List Rw) (glo : List (List Nat × D)) (cls : List (Nat × Str)) (d0 : FuncData) : Inf where
  P := P
  w := w
  K := K
  mg := mg
  base := base
  T := (tabOf rows glo cls).T
  nam := fun f => ((rowOf rows f).map (·.name)).getD ""
  fad := fun f => He.ga K (((rowOf rows f).map (·.name)).getD "")
  fd := fun f => (fdK K (He.ga K (((rowOf rows f).map (·.name)).getD ""))).getD d0
  ps := fun f => ((rowOf rows f).map (·.ps)).getD []
  glo := glo
  cad := fun c => He.ga K ((cls.lookup c).getD "")
  cls := cls
def chkR (P : Program) (me : Nat) (rows : List Rw) (glo : List (List Nat × D)) (cls : List (Nat × Str)) : Bool := rows.all fun r => chkF (tabOf rows glo cls) me r.ps r.N r.F (defScope (topOf P r.at_)) (defBody (topOf P r.at_))
section
variable {P : Program} {w : World} {K : PySem.W.Frag} {h : Heap} {mg : Str → Option Value} {rows : List Rw} {glo : List (List Nat × D)} {cls : List (Nat × Str)} {d0 : FuncData} {me : Nat}
theorem row_fun (c : He.SaysD (faOf rows cls) (rows.map (mkD P)) K) {r : Rw} (hr : r ∈ rows) : ∃ fd, FunD K r.name r.name (defArgs (topOf P r.at_)) (defBody (topOf P r.at_)) (defScope (topOf P r.at_)) [] [] (He.ga K r.name) fd ∧ fdK K (He.ga K r.name) = some fd := by
  obtain ⟨fd, F⟩ := c.defs (d := mkD P r) (List.mem_map.mpr ⟨r, hr, rfl⟩)
  refine ⟨fd, F, ?_⟩
  obtain ⟨oc, od, dV, kV, doc, pm, an, cdv, ct, osl, e, lk, _⟩ := F.ex
  have lk : K.lookup (He.ga K r.name) = _ := lk
  unfold fdK
  rw [lk, e]
theorem facts_of (X : K.In h) (G : h.Ns mainGlobals mg) (c : SaysR (faOf rows cls) (rows.map (mkD P)) (exOf glo) K) (hc : chkR P me rows glo cls = true) (hb : AllP (BindOk P) rows) (base : Heap) : Facts (infOf P w K mg base rows glo cls d0) (tabOf rows glo cls) := by
  obtain ⟨c1, c2⟩ := c.d
  refine ⟨rfl, fun f x k e => ?_, fun x d m => ?_, fun x m => ?_, rfl, fun c x e => ?_, fun c x d y e1 e2 => ?_⟩
  · have e : (rowOf rows f).map (fun r => (r.name, r.ps.length)) = some (x, k) := e
    cases er : rowOf rows f with
    | none => rw [er] at e; cases e
    | some r =>
      rw [er] at e
      injection e with e
      injection e with e1 e2
      have hr : r ∈ rows := List.mem_of_find?_eq_some er
      obtain ⟨fd, F, ef⟩ := row_fun c1 hr
      have en : (infOf P w K mg base rows glo cls d0).nam f = r.name := by
        show ((rowOf rows f).map (·.name)).getD (Str.ofString "") = r.name
        rw [er]; rfl
      have ea : (infOf P w K mg base rows glo cls d0).fad f = He.ga K r.name := by
        show He.ga K (((rowOf rows f).map (·.name)).getD "") = _
        rw [er]; rfl
      have ep : (infOf P w K mg base rows glo cls d0).ps f = r.ps := by
        show ((rowOf rows f).map (·.ps)).getD [] = _
        rw [er]; rfl
      have ed : (infOf P w K mg base rows glo cls d0).fd f = fd := by
        show (fdK K ((infOf P w K mg base rows glo cls d0).fad f)).getD d0 = fd
        rw [ea, ef]; rfl
      have eT : (infOf P w K mg base rows glo cls d0).T f = some r.F := by
        show (rowOf rows f).map (·.F) = some r.F
        rw [er]; rfl
      have hg : mg r.name = some (.ref (He.ga K r.name)) := He.glo_ok X G (c1.facts (f := .glo r.name) (List.mem_append_left _ (List.mem_map.mpr ⟨r, hr, rfl⟩)))
      refine ⟨⟨?_, ?_, ?_⟩, by rw [en]; exact e1, by rw [ep]; exact e2, r.F, me, r.N, r.name, defArgs (topOf P r.at_), defBody (topOf P r.at_), defScope (topOf P r.at_), [], [], eT, ?_, ?_⟩
      · rw [en, ea]; exact hg
      · rw [ea]; exact F.kp
      · rw [ed, ep]; exact F.bindsN (hb.get r hr)
      · rw [ea, ed, ← e1]; exact F
      · rw [ep]; exact List.all_eq_true.mp hc r hr
  · have := List.all_eq_true.mp c2 (x, d) m
    obtain ⟨v, u, q1, q2, q3⟩ := constB_ok X G this
    exact ⟨v, u, q1, q2, fun H B Γ => q3 _ rfl H B Γ⟩
  · exact He.free_ok X G (c1.facts (f := .free x) (List.mem_append_right _ (List.mem_append_left _ (List.mem_map.mpr ⟨x, m, rfl⟩))))
  · have e : cls.lookup c = some x := e
    have hm := lookN_mem e
    have ec : (infOf P w K mg base rows glo cls d0).cad c = He.ga K x := by
      show He.ga K ((cls.lookup c).getD (Str.ofString "")) = _
      rw [e]; rfl
    have g := He.glo_ok X G (c1.facts (f := .glo x) (List.mem_append_right _ (List.mem_append_right _ (List.mem_append_left _ (List.mem_map.mpr ⟨_, hm, rfl⟩)))))
    have q := He.exc_ok (c1.facts (f := .exc x) (List.mem_append_right _ (List.mem_append_right _ (List.mem_append_right _ (List.mem_append_left _ (List.mem_map.mpr ⟨_, hm, rfl⟩))))))
    rw [ec]
    exact ⟨g, q⟩
  · have e1 : cls.lookup c = some x := e1
    have e2 : cls.lookup d = some y := e2
    have ec : (infOf P w K mg base rows glo cls d0).cad c = He.ga K x := by
      show He.ga K ((cls.lookup c).getD (Str.ofString "")) = _
      rw [e1]; rfl
    have ed : (infOf P w K mg base rows glo cls d0).cad d = He.ga K y := by
      show He.ga K ((cls.lookup d).getD (Str.ofString "")) = _
      rw [e2]; rfl
    rw [ec, ed]
    exact He.exm_ok (c1.facts (f := .exm x y (exB c d)) (List.mem_append_right _ (List.mem_append_right _ (List.mem_append_right _ (List.mem_append_right _ (List.mem_flatMap.mpr ⟨(c, x), lookN_mem e1, List.mem_map.mpr ⟨(d, y), lookN_mem e2, rfl⟩⟩))))))
/-! ### the law's promise -/
def spLaw (K : PySem.W.Frag) (most : Nat) : Sp := fun vs H Q _ => ∃ (a : Addr) (ns : List Int), vs = [.ref a] ∧ ns.length ≤ most ∧ Only H ∧ SqL K H a (ns.map V.int) ∧ ∀ v H', v = .bl true → Q v H'
theorem law_fn {S : Inf} {J : Tab} (c : Facts S J) {n f most : Nat} {x : Str} (hk : J.nam f = some (x, 1)) (hl : ∀ ns : List Int, ns.length ≤ most → ∃ g', evF J.T n f [.scr (ns.map D.int)] [] = .ok (.bl true) g') :
    FnOk S.P S.w S.K S.mg S.base (L2.CX S.P S.w) n (S.fad f) (S.fd f) (S.ps f) (spLaw S.K most) := by
  obtain ⟨d, _, _, hp⟩ := (c.lnk n).call f x 1 hk
  refine d.ok.imp fun vs H Q E ⟨a, ns, ev, hlen, ho, hs, hq⟩ => ?_
  subst ev
  obtain ⟨g', e⟩ := hl ns hlen
  have ro : Ro S.K H a (ns.map V.int) := by
    rcases hs with (h | ⟨o, h⟩) | h
    · rcases ho a with z | ⟨o, xs, z⟩
      · rw [h] at z; cases z
      · rw [h] at z; cases z
    · exact .inl ⟨o, h⟩
    · exact .inr h
  refine ⟨[.scr (ns.map D.int)], [], fun _ => False, [], hp.symm, .cons (.scr ro (reps_of_ints ns)) .nil, ⟨⟨fun _ z => z.elim, fun _ z => by cases z⟩, rfl, List.nodup_nil, fun n ds z => by simp at z, fun n ds z => by simp at z⟩, ?_⟩
  rw [c.T, e]
  exact fun H' B' Γ' _ _ v r _ => hq v H' r.blv
theorem fnOk_cx {P : Program} {w : World} {K : PySem.W.Frag} {mg : Str → Option Value} {base : Heap} {CX' : CXT} {k : Nat} {f : Addr} {fd : FuncData} {ps : List Str} {sp : Sp} (F : FnOk P w K mg base (L2.CX P w) k f fd ps sp) (hE : ∀ vs H Q E, sp vs H Q E → sp vs H Q fun _ _ _ => False) :
    FnOk P w K mg base CX' k f fd ps sp := ⟨F.len, fun A outer s H args us vs Q E hr he hb hv hs => codeAny_mono (F.run A outer s H args us vs Q (fun _ _ _ => False) hr he hb hv (hE _ _ _ _ hs)) fun r s' h => by
  cases r with
  | ok fl => cases fl <;> exact h
  | error e =>
    obtain ⟨_, _, _, _, _, _, _, _, _, _, _, _, z⟩ := h
    exact z.elim⟩
end
end Rz

namespace Rz
open PySem PySem.Spec PyProof.Rows L2
def chk1 (r : Rw) : Bool := chkF (tabOf rows glo cls) 24 r.ps r.N r.F (defScope (topOf prog r.at_)) (defBody (topOf prog r.at_))
theorem chk_0 : ((rows.drop 0).take 8).all chk1 = true := by decide +kernel
theorem chk_1 : ((rows.drop 8).take 8).all chk1 = true := by decide +kernel
theorem chk_2 : ((rows.drop 16).take 8).all chk1 = true := by decide +kernel
theorem chk_3 : ((rows.drop 24).take 8).all chk1 = true := by decide +kernel
theorem chk_4 : ((rows.drop 32).take 8).all chk1 = true := by decide +kernel
theorem all_cut {l : List Rw} {p : Rw → Bool} (k : Nat) (h1 : (l.take k).all p = true) (h2 : (l.drop k).all p = true) : l.all p = true := by
  rw [← List.take_append_drop k l, List.all_append, h1, h2]; rfl
theorem chk : chkR prog 24 rows glo cls = true := (all_cut (l := rows.drop 0) 8 chk_0 (by rw [List.drop_drop]; exact (all_cut (l := rows.drop 8) 8 chk_1 (by rw [List.drop_drop]; exact (all_cut (l := rows.drop 16) 8 chk_2 (by rw [List.drop_drop]; exact (all_cut (l := rows.drop 24) 8 chk_3 (by rw [List.drop_drop]; exact (all_cut (l := rows.drop 32) 8 chk_4 (by rw [List.drop_drop]; exact (by rfl : (rows.drop 40).all chk1 = true)))))))))))
theorem binds : AllP (BindOk prog) rows := .cons (fun _ _ _ _ _ _ us hl => match us, hl with | [_, _], _ => rfl) (
    .cons (fun _ _ _ _ _ _ us hl => match us, hl with | [_, _], _ => rfl) (
    .cons (fun _ _ _ _ _ _ us hl => match us, hl with | [_], _ => rfl) (
    .cons (fun _ _ _ _ _ _ us hl => match us, hl with | [_, _, _], _ => rfl) (
    .cons (fun _ _ _ _ _ _ us hl => match us, hl with | [_], _ => rfl) (
    .cons (fun _ _ _ _ _ _ us hl => match us, hl with | [_], _ => rfl) (
    .cons (fun _ _ _ _ _ _ us hl => match us, hl with | [_], _ => rfl) (
    .cons (fun _ _ _ _ _ _ us hl => match us, hl with | [_, _], _ => rfl) (
    .cons (fun _ _ _ _ _ _ us hl => match us, hl with | [_, _, _], _ => rfl) (
    .cons (fun _ _ _ _ _ _ us hl => match us, hl with | [_, _, _], _ => rfl) (
    .cons (fun _ _ _ _ _ _ us hl => match us, hl with | [_, _, _], _ => rfl) (
    .cons (fun _ _ _ _ _ _ us hl => match us, hl with | [_], _ => rfl) (
    .cons (fun _ _ _ _ _ _ us hl => match us, hl with | [_], _ => rfl) (
    .cons (fun _ _ _ _ _ _ us hl => match us, hl with | [_], _ => rfl) (
    .cons (fun _ _ _ _ _ _ us hl => match us, hl with | [_, _], _ => rfl) (
    .cons (fun _ _ _ _ _ _ us hl => match us, hl with | [_], _ => rfl) (
    .cons (fun _ _ _ _ _ _ us hl => match us, hl with | [_], _ => rfl) (
    .cons (fun _ _ _ _ _ _ us hl => match us, hl with | [_, _], _ => rfl) (
    .cons (fun _ _ _ _ _ _ us hl => match us, hl with | [_], _ => rfl) (
    .cons (fun _ _ _ _ _ _ us hl => match us, hl with | [_], _ => rfl) (
    .cons (fun _ _ _ _ _ _ us hl => match us, hl with | [_, _], _ => rfl) (
    .cons (fun _ _ _ _ _ _ us hl => match us, hl with | [_, _], _ => rfl) (
    .cons (fun _ _ _ _ _ _ us hl => match us, hl with | [_, _], _ => rfl) (
    .cons (fun _ _ _ _ _ _ us hl => match us, hl with | [_, _], _ => rfl) (
    .cons (fun _ _ _ _ _ _ us hl => match us, hl with | [_, _], _ => rfl) (
    .cons (fun _ _ _ _ _ _ us hl => match us, hl with | [_, _], _ => rfl) (
    .cons (fun _ _ _ _ _ _ us hl => match us, hl with | [_, _, _], _ => rfl) (
    .cons (fun _ _ _ _ _ _ us hl => match us, hl with | [_], _ => rfl) (
    .cons (fun _ _ _ _ _ _ us hl => match us, hl with | [_, _], _ => rfl) (
    .cons (fun _ _ _ _ _ _ us hl => match us, hl with | [_, _], _ => rfl) (
    .cons (fun _ _ _ _ _ _ us hl => match us, hl with | [_, _, _], _ => rfl) (
    .cons (fun _ _ _ _ _ _ us hl => match us, hl with | [_], _ => rfl) (
    .cons (fun _ _ _ _ _ _ us hl => match us, hl with | [_, _], _ => rfl) (
    .cons (fun _ _ _ _ _ _ us hl => match us, hl with | [_], _ => rfl) (
    .cons (fun _ _ _ _ _ _ us hl => match us, hl with | [_, _], _ => rfl) (
    .cons (fun _ _ _ _ _ _ us hl => match us, hl with | [_, _], _ => rfl) (
    .cons (fun _ _ _ _ _ _ us hl => match us, hl with | [_, _], _ => rfl) (
    .cons (fun _ _ _ _ _ _ us hl => match us, hl with | [_, _], _ => rfl) (
    .cons (fun _ _ _ _ _ _ us hl => match us, hl with | [_], _ => rfl) (
    .cons (fun _ _ _ _ _ _ us hl => match us, hl with | [_], _ => rfl) ( .nil))))))))))))))))))))))))))))))))))))))))

def TT : Nat → Option Fn := (tabOf rows glo cls).T
end Rz
/-! RzM1 -/
set_option linter.all false
set_option maxRecDepth 100000
namespace Rz
/-! rules of the evaluator -/
/-- so that simp writes its steps down -/
theorem nr {α : Sort u} {a b : α} (h : a = b) : a = b := h
section
variable {C : Nat → List D → Gs → R D} {env : Env} {g : Gs}
@[simp] theorem bind_ok {α β : Type} (a : α) (g : Gs) (f : α → Gs → R β) : (R.ok a g).bind f = f a g := nr rfl
@[simp] theorem bind_exc {α β : Type} (c : Nat) (p : D) (g : Gs) (f : α → Gs → R β) : (R.exc c p g : R α).bind f = .exc c p g := nr rfl
@[simp] theorem of_some {α : Type} (a : α) (g : Gs) : R.of (some a) g = .ok a g := nr rfl
@[simp] theorem to_ok (d : D) (g : Gs) (env : Env) (f : D → Gs → SR) : (R.ok d g).to env f = f d g := nr rfl
def slV : Sl → Gs → R D
  | .p d, g => .ok d g
  | _, _ => .no
@[simp] theorem slV_p (d : D) (g : Gs) : slV (.p d) g = .ok d g := nr rfl
@[simp] theorem getS_z (a : Sl) (r : Env) : getS (a :: r) 0 = a := nr rfl
@[simp] theorem getS_s (a : Sl) (r : Env) (n : Nat) : getS (a :: r) (n + 1) = getS r n := nr rfl
@[simp] theorem setS_z (a s : Sl) (r : Env) : setS (a :: r) 0 s = s :: r := nr rfl
@[simp] theorem setS_s (a s : Sl) (r : Env) (n : Nat) : setS (a :: r) (n + 1) s = a :: setS r n s := nr rfl
@[simp] theorem evE_lit (d : D) : evE C (.lit d) env g = .ok d g := nr rfl
@[simp] theorem evE_var (i : Nat) : evE C (.var i) env g = slV (getS env i) g := by
  show (match getS env i with | .p d => R.ok d g | _ => .no) = _
  cases getS env i <;> rfl
@[simp] theorem evE_glo (x : List Nat) (d : D) : evE C (.glo x d) env g = .ok d g := nr rfl
@[simp] theorem evE_fnv (f : Nat) : evE C (.fnv f) env g = .ok (.fn f) g := nr rfl
@[simp] theorem evE_tup (es : List Ex) : evE C (.tup es) env g = (evEs C es env g).bind fun ds g => .ok (.tup ds) g := nr rfl
@[simp] theorem evE_lst (es : List Ex) : evE C (.lst es) env g = (evEs C es env g).bind fun ds g => .ok (.lst ds) g := nr rfl
@[simp] theorem evE_op (o : Op) (a b : Ex) : evE C (.op o a b) env g = (evE C a env g).bind fun x g => (evE C b env g).bind fun y g => .of (op2 o x y) g := nr rfl
def negD : D → Gs → R D
  | .int i, g => .ok (.int (-i)) g
  | _, _ => .no
@[simp] theorem negD_int (i : Int) (g : Gs) : negD (.int i) g = .ok (.int (-i)) g := nr rfl
def notD : D → Gs → R D
  | .bl b, g => .ok (.bl (!b)) g
  | _, _ => .no
@[simp] theorem notD_bl (b : Bool) (g : Gs) : notD (.bl b) g = .ok (.bl (!b)) g := nr rfl
def iteD {α : Type} (x : D) (a b : α) (n : α) : α := match x with
  | .bl true => a
  | .bl false => b
  | _ => n
@[simp] theorem iteD_bl {α : Type} (c : Bool) (a b n : α) : iteD (.bl c) a b n = if c = true then a else b := by cases c <;> rfl
@[simp] theorem evE_neg (a : Ex) : evE C (.neg a) env g = (evE C a env g).bind negD := by
  show (evE C a env g).bind _ = _
  congr 1 <;> (funext x g; cases x <;> rfl)
@[simp] theorem evE_not (a : Ex) : evE C (.not a) env g = (evE C a env g).bind notD := by
  show (evE C a env g).bind _ = _
  congr 1 <;> (funext x g; cases x <;> rfl)
@[simp] theorem evE_and (a b : Ex) : evE C (.and_ a b) env g = (evE C a env g).bind fun x g => iteD x (evE C b env g) (.ok (.bl false) g) .no := by
  show (evE C a env g).bind _ = _
  congr 1 <;> (funext x g; cases x <;> first | rfl | (rename_i c; cases c <;> rfl))
@[simp] theorem evE_or (a b : Ex) : evE C (.or_ a b) env g = (evE C a env g).bind fun x g => iteD x (.ok (.bl true) g) (evE C b env g) .no := by
  show (evE C a env g).bind _ = _
  congr 1 <;> (funext x g; cases x <;> first | rfl | (rename_i c; cases c <;> rfl))
@[simp] theorem evE_ite (c a b : Ex) : evE C (.ite c a b) env g = (evE C c env g).bind fun x g => iteD x (evE C a env g) (evE C b env g) .no := by
  show (evE C c env g).bind _ = _
  congr 1 <;> (funext x g; cases x <;> first | rfl | (rename_i c; cases c <;> rfl))
@[simp] theorem evE_call (f : Nat) (es : List Ex) : evE C (.call f es) env g = (evEs C es env g).bind fun ds g => C f ds g := nr rfl
@[simp] theorem evE_bi (b : Bi) (es : List Ex) : evE C (.bi b es) env g = (evEs C es env g).bind fun ds g => .of (bi b ds) g := nr rfl
@[simp] theorem evE_meth (b : Bi) (a : Ex) (es : List Ex) : evE C (.meth b a es) env g = (evE C a env g).bind fun x g => if mtyp b x then (evEs C es env g).bind fun ds g => .of (bi b (x :: ds)) g else .no := nr rfl
@[simp] theorem evE_ix (a i : Ex) : evE C (.ix a i) env g = (evE C a env g).bind fun x g => (evE C i env g).bind fun y g => .of (ixD g x y) g := nr rfl
@[simp] theorem evE_sl (k : SlK) (a : Ex) (es : List Ex) : evE C (.sl k a es) env g = (evE C a env g).bind fun x g => (evIs C es env g).bind fun ds g => .of (slD k x ds) g := nr rfl
@[simp] theorem evEs_nil : evEs C [] env g = .ok [] g := nr rfl
@[simp] theorem evEs_cons (e : Ex) (es : List Ex) : evEs C (e :: es) env g = (evE C e env g).bind fun d g => (evEs C es env g).bind fun ds g => .ok (d :: ds) g := nr rfl
@[simp] theorem evIs_nil : evIs C [] env g = .ok [] g := nr rfl
@[simp] theorem evIs_cons (e : Ex) (es : List Ex) : evIs C (e :: es) env g = (evE C e env g).bind fun d g => d.toI fun i => (evIs C es env g).bind fun ds g => .ok (.int i :: ds) g := nr rfl
@[simp] theorem toI_int {β : Type} (i : Int) (k : Int → R β) : (D.int i).toI k = k i := nr rfl
@[simp] theorem evC_nil : evC C [] env g = .ok (.bl true) g := nr rfl
@[simp] theorem evC_one (c : Ex) : evC C [c] env g = evE C c env g := nr rfl
def chD (C : Nat → List D → Gs → R D) (p : Op) (c : Ex) (env : Env) (y : D) (g : Gs) (o : Option D) : R D := match o with
  | some (.bl true) => (evE C c env g).bind fun z g => .of (op2 p y z) g
  | some (.bl false) => .ok (.bl false) g
  | _ => .no
@[simp] theorem chD_bl (p : Op) (c : Ex) (y : D) (b : Bool) : chD C p c env y g (some (.bl b)) = if b = true then (evE C c env g).bind fun z g => .of (op2 p y z) g else .ok (.bl false) g := by cases b <;> rfl
@[simp] theorem evE_chain (o p : Op) (a b c : Ex) : evE C (.chain o p a b c) env g = (evE C a env g).bind fun x g => (evE C b env g).bind fun y g => chD C p c env y g (op2 o x y) := nr rfl
def compD (C : Nat → List D → Gs → R D) (e : Ex) (t : Tg) (c : List Ex) (env : Env) (g : Gs) (o : Option (List D)) : R D := match o with
  | none => .no
  | some xs => if Nat.ble xs.length lineN then match compL (fun env g => evE C e env g) (fun env g => evC C c env g) t xs (wipeS t.ix env) g with
      | .ok ys g => .ok (.lst ys) g
      | _ => .no
    else .no
@[simp] theorem evE_comp (e : Ex) (t : Tg) (k : ItK) (es c : List Ex) : evE C (.comp e t k es c) env g = (evEs C es env g).bind fun ds g => compD C e t c env g (items k ds) := nr rfl
/-! statements -/
def thenS (C : Nat → List D → Gs → R D) (ss : List St) : SR → SR
  | .nx env g => evSs C ss env g
  | r => r
@[simp] theorem thenS_nx (ss : List St) : thenS C ss (.nx env g) = evSs C ss env g := nr rfl
@[simp] theorem thenS_ret (ss : List St) (d : D) : thenS C ss (.ret d g) = .ret d g := nr rfl
@[simp] theorem thenS_brk (ss : List St) : thenS C ss (.brk env g) = .brk env g := nr rfl
@[simp] theorem thenS_cnt (ss : List St) : thenS C ss (.cnt env g) = .cnt env g := nr rfl
@[simp] theorem evSs_nil : evSs C [] env g = .nx env g := nr rfl
@[simp] theorem evSs_cons (s : St) (ss : List St) : evSs C (s :: ss) env g = thenS C ss (evS C s env g) := by
  show (match evS C s env g with | .nx env g => evSs C ss env g | r => r) = _
  cases evS C s env g <;> rfl
@[simp] theorem thenS_ite (ss : List St) (c : Prop) [Decidable c] (a b : SR) : thenS C ss (if c then a else b) = if c then thenS C ss a else thenS C ss b := by split <;> rfl
@[simp] theorem evS_asg (i : Nat) (e : Ex) : evS C (.asg i e) env g = (evE C e env g).to env fun d g => .nx (setS env i (.p d)) g := nr rfl
@[simp] theorem evS_own (i : Nat) (e : Ex) : evS C (.own i e) env g = (evE C e env g).to env fun d g => if isLst d then .nx (setS env i (.o d)) g else .no := nr rfl
@[simp] theorem evS_frz (is : List Nat) : evS C (.frz is) env g = .nx (frz is env) g := nr rfl
@[simp] theorem evS_asg2 (i j : Nat) (e : Ex) : evS C (.asg2 i j e) env g = (evE C e env g).to env fun d g => .nx (setS (setS env i (.p d)) j (.p d)) g := nr rfl
def celD (i : Nat) (env : Env) (d : D) (g : Gs) : SR := match d with
  | .lst ds => if D.noLs ds then .nx (setS env i (.p (.mref g.length))) (g ++ [ds]) else .no
  | _ => .no
@[simp] theorem evS_cel (i : Nat) (e : Ex) : evS C (.cel i e) env g = (evE C e env g).to env (celD i env) := nr rfl
@[simp] theorem celD_lst (i : Nat) (ds : List D) : celD i env (.lst ds) g = if D.noLs ds then .nx (setS env i (.p (.mref g.length))) (g ++ [ds]) else .no := nr rfl
def nxO : Option Env → Gs → SR
  | some env, g => .nx env g
  | none, _ => .no
@[simp] theorem nxO_some : nxO (some env) g = .nx env g := nr rfl
def parD (ts : List (Bool × Nat)) (env : Env) : R (List D) → SR
  | .ok ds g => nxO (setPar ts ds env) g
  | .exc c p g => .exc c p env g
  | .no => .no
@[simp] theorem parD_ok (ts : List (Bool × Nat)) (ds : List D) : parD ts env (.ok ds g) = nxO (setPar ts ds env) g := nr rfl
@[simp] theorem evS_par (ts : List (Bool × Nat)) (es : List Ex) : evS C (.par ts es) env g = parD ts env (evEs C es env g) := by
  show (match evEs C es env g with | .ok ds g => (match setPar ts ds env with | some env => SR.nx env g | none => .no) | .exc c p g => .exc c p env g | .no => .no) = _
  cases evEs C es env g with
  | ok ds g => show (match setPar ts ds env with | some env => SR.nx env g | none => .no) = nxO _ g; cases setPar ts ds env <;> rfl
  | _ => rfl
@[simp] theorem evS_unp (t : Tg) (e : Ex) : evS C (.unp t e) env g = (evE C e env g).to env fun d g => nxO (bindT t d env) g := by
  show (evE C e env g).to env _ = _
  congr 1 <;> (funext d g; cases bindT t d env <;> rfl)
@[simp] theorem evS_ex (e : Ex) : evS C (.ex e) env g = (evE C e env g).to env fun _ g => .nx env g := nr rfl
@[simp] theorem evS_ite (c : Ex) (a b : List St) : evS C (.ite c a b) env g = (evE C c env g).to env fun x g => iteD x (evSs C a env g) (evSs C b env g) .no := by
  show (evE C c env g).to env _ = _
  congr 1 <;> (funext x g; cases x <;> first | rfl | (rename_i c; cases c <;> rfl))
def forD (C : Nat → List D → Gs → R D) (t : Tg) (body : List St) (env : Env) (g : Gs) : Option (List D) → SR
  | some xs => forL (fun env g => evSs C body env g) t xs env g
  | none => .no
def bodyOf (C : Nat → List D → Gs → R D) (bs : List St) : Env → Gs → SR := fun env g => evSs C bs env g
def cndOf (C : Nat → List D → Gs → R D) (c : Ex) : Env → Gs → R D := fun env g => evE C c env g
theorem bodyOf_eq (bs : List St) : bodyOf C bs env g = evSs C bs env g := rfl
theorem cndOf_eq (c : Ex) : cndOf C c env g = evE C c env g := rfl
@[simp] theorem forD_some (t : Tg) (body : List St) (xs : List D) : forD C t body env g (some xs) = forL (bodyOf C body) t xs env g := nr rfl
def fork (C : Nat → List D → Gs → R D) (t : Tg) (k : ItK) (body : List St) (env : Env) : R (List D) → SR
  | .ok ds g => forD C t body env g (items k ds)
  | .exc c p g => .exc c p env g
  | .no => .no
@[simp] theorem fork_ok (t : Tg) (k : ItK) (body : List St) (ds : List D) : fork C t k body env (.ok ds g) = forD C t body env g (items k ds) := nr rfl
@[simp] theorem evS_for (t : Tg) (k : ItK) (es : List Ex) (body : List St) : evS C (.for_ t k es body) env g = fork C t k body env (evEs C es env g) := by
  show (match evEs C es env g with | .ok ds g => (match items k ds with | some xs => forL (fun env g => evSs C body env g) t xs env g | none => .no) | .exc c p g => .exc c p env g | .no => .no) = _
  cases evEs C es env g with
  | ok ds g => show (match items k ds with | some xs => forL (fun env g => evSs C body env g) t xs env g | none => .no) = forD C t body env g (items k ds); cases items k ds <;> rfl
  | _ => rfl
@[simp] theorem evS_whl (c : Ex) (body : List St) : evS C (.whl c body) env g = whlL (cndOf C c) (bodyOf C body) WF env g := nr rfl
@[simp] theorem evS_ret (e : Ex) : evS C (.ret e) env g = (evE C e env g).to env fun d g => .ret d g := nr rfl
@[simp] theorem evS_retN : evS C .retN env g = .ret .non g := nr rfl
@[simp] theorem evS_brk : evS C .brk env g = .brk env g := nr rfl
@[simp] theorem evS_cnt : evS C .cnt env g = .cnt env g := nr rfl
def appD (i : Nat) (env : Env) (r : R D) : Sl → SR
  | .o (.lst ds) => r.to env fun d g => if Nat.blt ds.length lineN then .nx (setS env i (.o (.lst (ds ++ [d])))) g else .no
  | _ => .no
@[simp] theorem appD_o (i : Nat) (r : R D) (ds : List D) : appD i env r (.o (.lst ds)) = r.to env fun d g => if Nat.blt ds.length lineN then .nx (setS env i (.o (.lst (ds ++ [d])))) g else .no := nr rfl
@[simp] theorem evS_app (i : Nat) (e : Ex) : evS C (.app i e) env g = appD i env (evE C e env g) (getS env i) := by
  show (match getS env i with | .o (.lst ds) => _ | _ => _) = _
  cases getS env i with
  | o d => cases d <;> rfl
  | _ => rfl
/-! calls -/
@[simp] theorem outR_ret (d : D) : outR (.ret d g) = .ok d g := nr rfl
@[simp] theorem outR_nx : outR (.nx env g) = .ok .non g := nr rfl
@[simp] theorem outR_ite (c : Prop) [Decidable c] (a b : SR) : outR (if c then a else b) = if c then outR a else outR b := by split <;> rfl
theorem evF_s {T : Nat → Option Fn} {f : Nat} {F : Fn} (h : T f = some F) (n : Nat) (ds : List D) (g : Gs) : evF T (n + 1) f ds g = runF (evF T n) F ds g := by
  show (match T f with | some F => runF (evF T n) F ds g | none => .no) = _
  rw [h]
theorem runF_eq {C : Nat → List D → Gs → R D} {F : Fn} {ds : List D} {g : Gs} (h : (ds.length == F.np) = true) : runF C F ds g = outR (evSs C F.body (entry F ds) g) := if_pos h
end
end Rz
/-! RzM2 -/
set_option linter.all false
set_option maxRecDepth 100000
set_option exponentiation.threshold 20000
namespace Rz
/-! ### sizes -/
theorem log2_lt' {x n : Nat} (h : x < 2 ^ n) (hn : 0 < n) : x.log2 < n := by
  by_cases h0 : x = 0
  · rw [h0]; simpa using hn
  · exact (Nat.log2_lt h0).mpr h
theorem mulOk_of {i j : Int} {n m : Nat} (h1 : i.natAbs < 2 ^ n) (h2 : j.natAbs < 2 ^ m) (hn : 0 < n) (hm : 0 < m) (h : n + m ≤ 100000000) : mulOk i j = true := by
  unfold mulOk
  have a := log2_lt' h1 hn
  have b := log2_lt' h2 hm
  exact Nat.ble_eq_true_of_le (by omega)
@[irreducible] def B2 : Nat := 2 ^ 13400
@[irreducible] def B4 : Nat := 2 ^ 400000
theorem B2_eq : B2 = 2 ^ 13400 := by unfold B2; rfl
theorem B4_eq : B4 = 2 ^ 400000 := by unfold B4; rfl
theorem B2_B4 : B2 ≤ B4 := by rw [B2_eq, B4_eq]; exact Nat.pow_le_pow_right (by decide) (by decide)
theorem divOk_of {i j : Int} (h0 : j ≠ 0) (h : i.natAbs < B2) : divOk i j = true := by
  rw [B2_eq] at h
  unfold divOk
  have a := log2_lt' h (by decide)
  have e1 : (!(j == 0)) = true := by simpa using h0
  rw [e1, Bool.true_and, Bool.or_eq_true]
  by_cases c : j.natAbs.log2 < 9000
  · exact .inl (Nat.ble_eq_true_of_le c)
  · exact .inr (Nat.ble_eq_true_of_le (by omega))
theorem divOk_small {i j : Int} (h0 : j ≠ 0) (h : j.natAbs < 2 ^ 9000) : divOk i j = true := by
  unfold divOk
  have a := log2_lt' h (by decide)
  have e1 : (!(j == 0)) = true := by simpa using h0
  rw [e1, Bool.true_and, Bool.or_eq_true]
  exact .inl (Nat.ble_eq_true_of_le a)
theorem op_add_i (i j : Int) : op2 .add (.int i) (.int j) = some (.int (i + j)) := rfl
theorem op_sub_i (i j : Int) : op2 .sub (.int i) (.int j) = some (.int (i - j)) := rfl
theorem op_mul_i {i j : Int} (h : mulOk i j = true) : op2 .mul (.int i) (.int j) = some (.int (i * j)) := if_pos h
theorem op_fdiv_i {i j : Int} (h : divOk i j = true) : op2 .fdiv (.int i) (.int j) = some (.int (i.fdiv j)) := if_pos h
theorem op_mod_i {i j : Int} (h : j ≠ 0) : op2 .mod (.int i) (.int j) = some (.int (i.fmod j)) := by
  show (if (j == 0) = true then none else _) = _
  rw [if_neg (by simpa using h)]
theorem op_mod_n (a b : Nat) (h : b ≠ 0) : op2 .mod (.int a) (.int b) = some (.int ((a % b : Nat) : Int)) := by
  rw [op_mod_i (by omega), Int.fmod_eq_emod_of_nonneg _ (by omega)]; rfl
theorem op_lt_i (i j : Int) : op2 .lt (.int i) (.int j) = some (.bl (decide (i < j))) := rfl
theorem op_le_i (i j : Int) : op2 .le (.int i) (.int j) = some (.bl (decide (i ≤ j))) := rfl
theorem op_gt_i (i j : Int) : op2 .gt (.int i) (.int j) = some (.bl (decide (j < i))) := rfl
theorem op_ge_i (i j : Int) : op2 .ge (.int i) (.int j) = some (.bl (decide (j ≤ i))) := rfl
theorem op_eq_i (i j : Int) : op2 .eq (.int i) (.int j) = some (.bl (decide (i = j))) := by
  show some (D.bl (i == j)) = _
  by_cases h : i = j <;> simp [h]
theorem op_ne_i (i j : Int) : op2 .ne (.int i) (.int j) = some (.bl (!decide (i = j))) := by
  show some (D.bl (!(i == j))) = _
  by_cases h : i = j <;> simp [h]

/-! ### the greatest common divisor -/
theorem whl_s (c : Env → Gs → R D) (b : Env → Gs → SR) (k : Nat) (env : Env) (g : Gs) (v : Bool) (g1 : Gs) (h : c env g = .ok (.bl v) g1) :
    whlL c b (k + 1) env g = if v then (match b env g1 with
      | .nx e2 g2 => whlL c b k e2 g2
      | .cnt e2 g2 => whlL c b k e2 g2
      | .brk e2 g2 => .nx e2 g2
      | r => r) else .nx env g1 := by
  show (match c env g with | .ok (.bl true) g1 => _ | .ok (.bl false) g1 => _ | .exc x p g1 => _ | _ => _) = _
  rw [h]
  cases v <;> rfl
theorem euc2 {a b : Nat} (hr : a % b ≠ 0) (hb : b ≠ 0) : b % (a % b) < b - b / 2 := by
  have h1 : a % b < b := Nat.mod_lt _ (by omega)
  have h2 : b % (a % b) < a % b := Nat.mod_lt _ (by omega)
  have h3 : b % (a % b) ≤ b - a % b := by
    rw [Nat.mod_eq_sub_mod (by omega)]
    exact Nat.mod_le _ _
  omega
theorem gcd_step (a b : Nat) : Nat.gcd b (a % b) = Nat.gcd a b := by
  rw [Nat.gcd_comm a b, Nat.gcd_rec b a, Nat.gcd_comm]
section
variable (C : Nat → List D → Gs → R D) (g : Gs)
/-- the loop of common: slots 0 and 1 -/
theorem common_loop (c : Env → Gs → R D) (bd : Env → Gs → SR) (mk : Nat → Nat → Env) (hc : ∀ a b, c (mk a b) g = .ok (.bl (decide (0 < b))) g) (hb : ∀ a b, 0 < b → bd (mk a b) g = .nx (mk b (a % b)) g) :
    ∀ (m : Nat) (a b fuel : Nat), b < 2 ^ m → 2 * m + 1 ≤ fuel → whlL c bd fuel (mk a b) g = .nx (mk (Nat.gcd a b) 0) g
  | 0, a, b, fuel, h, hf => by
    have hb0 : b = 0 := by simpa using h
    subst hb0
    obtain ⟨k, rfl⟩ : ∃ k, fuel = k + 1 := ⟨fuel - 1, by omega⟩
    rw [whl_s _ _ _ _ _ _ _ (hc a 0)]
    simp
  | m + 1, a, b, fuel, h, hf => by
    obtain ⟨k, rfl⟩ : ∃ k, fuel = k + 1 := ⟨fuel - 1, by omega⟩
    rw [whl_s _ _ _ _ _ _ _ (hc a b)]
    by_cases h0 : b = 0
    · subst h0; simp
    · have hp : 0 < b := by omega
      simp only [hp, decide_true, if_true]
      rw [hb a b hp]
      show whlL c bd k (mk b (a % b)) g = _
      obtain ⟨k, rfl⟩ : ∃ j, k = j + 1 := ⟨k - 1, by omega⟩
      rw [whl_s _ _ _ _ _ _ _ (hc b (a % b))]
      by_cases h1 : a % b = 0
      · rw [← gcd_step a b, h1]; simp
      · have hp1 : 0 < a % b := by omega
        simp only [hp1, decide_true, if_true]
        rw [hb b (a % b) hp1]
        show whlL c bd k (mk (a % b) (b % (a % b))) g = _
        have := euc2 h1 h0
        rw [common_loop c bd mk hc hb m (a % b) (b % (a % b)) k (by rw [Nat.pow_succ] at h; omega) (by omega), gcd_step, gcd_step]
end
theorem T_common : TT i_common = some d_common := rfl
theorem T_lowest : TT i_lowest = some d_lowest := rfl
theorem ev_common (k : Nat) (a b : Nat) (g : Gs) (h : b < B4) : evF TT (k + 1) i_common [.int a, .int b] g = .ok (.int (Nat.gcd a b : Nat)) g := by
  rw [evF_s T_common, runF_eq rfl]
  have L := common_loop g (cndOf (evF TT k) (.op .gt (.var 1) (.lit (.int 0)))) (bodyOf (evF TT k) [.par [(false, 0), (false, 1)] [.var 1, .op .mod (.var 0) (.var 1)]]) (fun a b => [.p (.int a), .p (.int b)])
    (fun a b => by simp [cndOf_eq, op_gt_i]) (fun a b hb => by simp [bodyOf_eq, op_mod_n a b (by omega), setPar]) 400000 a b WF (by rw [← B4_eq]; exact h) (by decide)
  show outR (evSs (evF TT k) [.whl (.op .gt (.var 1) (.lit (.int 0))) [.par [(false, 0), (false, 1)] [.var 1, .op .mod (.var 0) (.var 1)]], .ret (.var 0)] [.p (.int a), .p (.int b)] g) = _
  rw [evSs_cons, evS_whl, L]
  simp

/-! ### fractions -/
def fr (q : Rat) : D := .tup [.int q.num, .int q.den]
@[irreducible] def BB : Nat := 2 ^ 6690
theorem BB_eq : BB = 2 ^ 6690 := by unfold BB; rfl
/-- what may be reckoned with -/
structure Sm (q : Rat) : Prop where
  num : q.num.natAbs < BB
  den : q.den < BB
theorem bi_abs_i (i : Int) : bi .abs [.int i] = some (.int (i.natAbs : Int)) := by
  show some (D.int (if i < 0 then -i else i)) = _
  congr 2
  omega
theorem fdiv_nn (a : Int) (b : Nat) : a.fdiv (b : Int) = a / (b : Int) := Int.fdiv_eq_ediv_of_nonneg a (by omega)
theorem ev_lowest_pos (k : Nat) (t : Int) (b : Nat) (g : Gs) (hb : b ≠ 0) (ht : t.natAbs < B2) (hb2 : b < B2) : evF TT (k + 2) i_lowest [.int t, .int b] g = .ok (fr (Rat.normalize t b hb)) g := by
  rw [evF_s T_lowest, runF_eq rfl]
  show outR (evSs (evF TT (k + 1)) b_lowest [.p (.int t), .p (.int b), .u] g) = _
  have h0 : ¬ ((b : Int) < 0) := by omega
  have hg : Nat.gcd t.natAbs b ≠ 0 := Nat.gcd_ne_zero_right hb
  have hcom := ev_common k t.natAbs b g (Nat.lt_of_lt_of_le hb2 B2_B4)
  have d1 : divOk t (Nat.gcd t.natAbs b : Nat) = true := divOk_of (by omega) ht
  have d2 : divOk (b : Int) (Nat.gcd t.natAbs b : Nat) = true := divOk_of (by omega) (by simpa using hb2)
  simp [b_lowest, op_lt_i, h0, bi_abs_i, hcom, op_fdiv_i d1, op_fdiv_i d2, fr, Rat.normalize_eq, fdiv_nn]

theorem atI_nat {α : Type} (xs : List α) (i : Nat) : atI xs (i : Int) = xs[i]? := by
  unfold atI ixN
  rw [if_pos (by omega)]
  by_cases h : i < xs.length
  · rw [if_pos (by omega)]; simp
  · rw [if_neg (by omega)]; simp [List.getElem?_eq_none (by omega : xs.length ≤ i)]
theorem ix_tn (g : Gs) (xs : List D) (i : Nat) : ixD g (.tup xs) (.int (i : Int)) = xs[i]? := atI_nat xs i
theorem ix_ln (g : Gs) (xs : List D) (i : Nat) : ixD g (.lst xs) (.int (i : Int)) = xs[i]? := atI_nat xs i
@[simp] theorem ix_t0 (g : Gs) (a : D) (r : List D) : ixD g (.tup (a :: r)) (.int 0) = some a := ix_tn g _ 0
@[simp] theorem ix_t1 (g : Gs) (a b : D) (r : List D) : ixD g (.tup (a :: b :: r)) (.int 1) = some b := ix_tn g _ 1
@[simp] theorem ix_t2 (g : Gs) (a b c : D) (r : List D) : ixD g (.tup (a :: b :: c :: r)) (.int 2) = some c := ix_tn g _ 2
@[simp] theorem ix_t3 (g : Gs) (a b c d : D) (r : List D) : ixD g (.tup (a :: b :: c :: d :: r)) (.int 3) = some d := ix_tn g _ 3
@[simp] theorem ix_l0 (g : Gs) (a : D) (r : List D) : ixD g (.lst (a :: r)) (.int 0) = some a := ix_ln g _ 0
@[simp] theorem ix_l1 (g : Gs) (a b : D) (r : List D) : ixD g (.lst (a :: b :: r)) (.int 1) = some b := ix_ln g _ 1
theorem natAbs_ofNat' (n : Nat) : ((n : Int)).natAbs = n := Int.natAbs_natCast n
theorem divInt_pos {t : Int} {b : Nat} (hb : b ≠ 0) : Rat.divInt t b = Rat.normalize t b hb := by
  rw [Rat.divInt_ofNat, Rat.mkRat_def, dif_neg hb]
theorem ev_lowest (k : Nat) (t b : Int) (g : Gs) (hb : b ≠ 0) (ht : t.natAbs < B2) (hb2 : b.natAbs < B2) : evF TT (k + 2) i_lowest [.int t, .int b] g = .ok (fr (Rat.divInt t b)) g := by
  by_cases h : 0 ≤ b
  · obtain ⟨n, rfl⟩ := Int.eq_ofNat_of_zero_le h
    rw [divInt_pos (by omega)]
    exact ev_lowest_pos k t n g (by omega) ht (by simpa using hb2)
  · rw [evF_s T_lowest, runF_eq rfl]
    show outR (evSs (evF TT (k + 1)) b_lowest [.p (.int t), .p (.int b), .u] g) = _
    have h0 : b < 0 := by omega
    obtain ⟨n, hn⟩ := Int.eq_ofNat_of_zero_le (show 0 ≤ -b by omega)
    have hbn : b = -(n : Int) := by omega
    subst hbn
    have hn0 : n ≠ 0 := by omega
    have hn1 : (0 : Int) < n := by omega
    have hb3 : n < B2 := by simpa using hb2
    have hg : Nat.gcd t.natAbs n ≠ 0 := Nat.gcd_ne_zero_right hn0
    have hcom := ev_common k t.natAbs n g (Nat.lt_of_lt_of_le hb3 B2_B4)
    have d1 : divOk (-t) (Nat.gcd t.natAbs n : Nat) = true := divOk_of (by omega) (by rw [Int.natAbs_neg]; exact ht)
    have d2 : divOk (n : Int) (Nat.gcd t.natAbs n : Nat) = true := divOk_of (by omega) (by simpa using hb3)
    have e : Rat.divInt t (-(n : Int)) = Rat.normalize (-t) n hn0 := by
      rw [← divInt_pos hn0]
      rw [Rat.divInt_neg']
    rw [e]
    have hn2 : ((-(n : Int)) < 0) = True := by simp; omega
    simp only [b_lowest]
    rw [evSs_cons, evS_ite]
    simp [op_lt_i, hn0, op_sub_i, setPar, bi_abs_i, hcom, op_fdiv_i d1, op_fdiv_i d2, fr, Rat.normalize_eq, fdiv_nn]
/-! ### the law's own fractions -/
theorem T_law_low : TT i_law_low = some d_law_low := rfl
theorem ev_law_low (k : Nat) (t b : Int) (g : Gs) (hb : b ≠ 0) (ht : t.natAbs < B2) (hb2 : b.natAbs < B2) : evF TT (k + 1) i_law_low [.int t, .int b] g = .ok (fr (Rat.divInt t b)) g := by
  rw [evF_s T_law_low, runF_eq rfl]
  have L := common_loop g (cndOf (evF TT k) (.op .ne (.var 3) (.lit (.int 0)))) (bodyOf (evF TT k) [.par [(false, 2), (false, 3)] [.var 3, .op .mod (.var 2) (.var 3)]]) (fun x y => [.p (.int t), .p (.int b), .p (.int x), .p (.int y)])
    (fun a b => by
      simp [cndOf_eq, op_ne_i]
      by_cases h : b = 0 <;> simp [h] <;> omega) (fun a b hb => by simp [bodyOf_eq, op_mod_n a b (by omega), setPar]) 400000 t.natAbs b.natAbs WF (by rw [← B4_eq]; exact Nat.lt_of_lt_of_le hb2 B2_B4) (by decide)
  have hg : Nat.gcd t.natAbs b.natAbs ≠ 0 := Nat.gcd_ne_zero_right (by omega)
  show outR (evSs (evF TT k) b_law_low [.p (.int t), .p (.int b), .u, .u] g) = _
  have d1 : divOk t (Nat.gcd t.natAbs b.natAbs : Nat) = true := divOk_of (by omega) ht
  have d2 : divOk b (Nat.gcd t.natAbs b.natAbs : Nat) = true := divOk_of (by omega) hb2
  have d3 : divOk (-t) (Nat.gcd t.natAbs b.natAbs : Nat) = true := divOk_of (by omega) (by rw [Int.natAbs_neg]; exact ht)
  have d4 : divOk (-b) (Nat.gcd t.natAbs b.natAbs : Nat) = true := divOk_of (by omega) (by rw [Int.natAbs_neg]; exact hb2)
  simp only [b_law_low]
  rw [evSs_cons, evS_par]
  simp only [evEs_cons, evEs_nil, evE_bi, evE_var, getS_z, getS_s, slV_p, bind_ok, bi_abs_i, of_some, parD_ok, setPar, setS_z, setS_s, nxO_some, thenS_nx]
  simp only [Bool.false_and, Bool.false_eq_true, if_false, setPar, nxO_some, thenS_nx, setS_s, setS_z]
  rw [evSs_cons, evS_whl, L]
  by_cases h : 0 < b
  · obtain ⟨n, rfl⟩ := Int.eq_ofNat_of_zero_le (Int.le_of_lt h)
    rw [divInt_pos (by omega)]
    rw [natAbs_ofNat'] at d1 d2
    have hn : 0 < n := by omega
    simp [op_gt_i, hn, op_fdiv_i d1, op_fdiv_i d2, fr, Rat.normalize_eq, fdiv_nn]
  · obtain ⟨n, hn⟩ := Int.eq_ofNat_of_zero_le (show 0 ≤ -b by omega)
    have hbn : b = -(n : Int) := by omega
    subst hbn
    have hn0 : n ≠ 0 := by omega
    have e : Rat.divInt t (-(n : Int)) = Rat.normalize (-t) n hn0 := by
      rw [← divInt_pos hn0]
      rw [Rat.divInt_neg']
    rw [e]
    have hnn : ¬ (0 < -(n : Int)) := by omega
    rw [Int.natAbs_neg, natAbs_ofNat'] at d3 d4
    rw [Int.neg_neg] at d4
    have hn2 : ¬ ((n : Int) < 0) := by omega
    simp [op_gt_i, hn2, op_fdiv_i d3, op_fdiv_i d4, fr, Rat.normalize_eq, fdiv_nn]

end Rz
/-! RzM3 -/
set_option linter.all false
set_option maxRecDepth 100000
namespace Rz
/-! ### rows of a told length -/
def tf (n : Nat) (f : Nat → D) : D := .tup ((List.range n).map f)
def lf (n : Nat) (f : Nat → D) : D := .lst ((List.range n).map f)
theorem get_map (n : Nat) {α : Type} (f : Nat → α) (i : Nat) (h : i < n) : ((List.range n).map f)[i]? = some (f i) := by
  rw [List.getElem?_map, List.getElem?_range h]; rfl
theorem ix_tf {g : Gs} {n : Nat} {f : Nat → D} {i : Nat} (h : i < n) : ixD g (tf n f) (.int (i : Int)) = some (f i) := by
  unfold tf; rw [ix_tn, get_map n f i h]
theorem len_tf (n : Nat) (f : Nat → D) : bi .len [tf n f] = some (.int n) := by
  show some (D.int ((List.range n).map f).length) = _
  simp
theorem tuple_lf (n : Nat) (f : Nat → D) : bi .tuple [lf n f] = some (tf n f) := rfl
theorem list_tf (n : Nat) (f : Nat → D) : bi .list [tf n f] = some (lf n f) := rfl
/-- d goes over f 0, f 1, .. (n of them) -/
def Sq (d : D) (n : Nat) (f : Nat → D) : Prop := seqOf d = some ((List.range n).map f)
theorem sq_tf (n : Nat) (f : Nat → D) : Sq (tf n f) n f := rfl
theorem items_seq {d : D} {n : Nat} {f : Nat → D} (h : Sq d n f) : items .seq [d] = some ((List.range n).map f) := by
  cases d <;> first | exact h | cases h
theorem items_rng {n : Nat} (h : n ≤ 1000000) : items .rng [.int (n : Int)] = some ((List.range n).map fun (i : Nat) => D.int (i : Int)) := by
  show (if shortI (n : Int) = true then some (rangeI 0 (n : Int).toNat) else none) = _
  rw [if_pos (by unfold shortI; rw [Bool.and_eq_true]; exact ⟨decide_eq_true (by omega), decide_eq_true (by omega)⟩)]
  simp [rangeI]
section
variable {C : Nat → List D → Gs → R D} {env : Env} {g : Gs}
theorem compL_map {f c : Env → Gs → R D} {t : Tg} {α : Type} (y : α → D) (enc : α → D) (hc : ∀ e g, c e g = .ok (.bl true) g) : ∀ (l : List α), (∀ a ∈ l, ∃ e1, bindT t (enc a) env = some e1 ∧ f e1 g = .ok (y a) g) →
    compL f c t (l.map enc) env g = .ok (l.map y) g
  | [], _ => rfl
  | a :: l, h => by
    obtain ⟨e1, h1, h2⟩ := h a (List.mem_cons_self ..)
    have ih := compL_map y enc hc l fun b hb => h b (List.mem_cons_of_mem _ hb)
    simp only [List.map_cons, compL, h1, hc, h2, ih]
theorem compD_n {e : Ex} {t : Tg} {n : Nat} {f : Nat → D} (y : Nat → D) (hn : n ≤ 1000000) (h : ∀ i, i < n → ∃ e1, bindT t (f i) (wipeS t.ix env) = some e1 ∧ evE C e e1 g = .ok (y i) g) :
    compD C e t [] env g (some ((List.range n).map f)) = .ok (lf n y) g := by
  unfold compD
  have hz : Nat.ble ((List.range n).map f).length lineN = true := Nat.ble_eq_true_of_le (by simpa [lineN] using hn)
  simp only [hz, if_true]
  have L := compL_map (f := fun env g => evE C e env g) (c := fun env g => evC C [] env g) (t := t) (env := wipeS t.ix env) (g := g) y f (fun _ _ => rfl) (List.range n) fun i hi => h i (List.mem_range.mp hi)
  rw [L]
  rfl
/-- a for over a range of n, by an invariant -/
theorem forL_n {b : Env → Gs → SR} {t : Tg} {f : Nat → D} (P : Nat → Env → Gs → Prop) (n : Nat) (h : ∀ i env g, i < n → P i env g → ∃ e1, bindT t (f i) env = some e1 ∧ ∃ env' g', (b e1 g = .nx env' g' ∨ b e1 g = .cnt env' g') ∧ P (i + 1) env' g') (h0 : P 0 env g) :
    ∃ env' g', forL b t ((List.range n).map f) env g = .nx env' g' ∧ P n env' g' := by
  have key : ∀ (m i : Nat) (env : Env) (g : Gs), i + m = n → P i env g → ∃ env' g', forL b t ((List.range' i m).map f) env g = .nx env' g' ∧ P n env' g' := by
    intro m
    induction m with
    | zero =>
      intro i env g hi hp
      have : i = n := by omega
      subst this
      exact ⟨env, g, rfl, hp⟩
    | succ m ih =>
      intro i env g hi hp
      obtain ⟨e1, h1, env', g', h2, h3⟩ := h i env g (by omega) hp
      obtain ⟨env2, g2, h4, h5⟩ := ih (i + 1) env' g' (by omega) h3
      refine ⟨env2, g2, ?_, h5⟩
      rw [List.range'_succ, List.map_cons]
      unfold forL
      rw [h1]
      rcases h2 with h2 | h2 <;> (simp only [h2]; exact h4)
  rw [List.range_eq_range']
  exact key n 0 env g (by omega) h0
end
/-! ### a part of a row replaced -/
def up {α : Type} (f : Nat → α) (p : Nat) (d : α) : Nat → α := fun i => if i = p then d else f i
theorem up_map {α : Type} (n : Nat) (f : Nat → α) (p : Nat) (d : α) (h : p < n) : ((List.range n).map f).take p ++ [d] ++ ((List.range n).map f).drop (p + 1) = (List.range n).map (up f p d) := by
  apply List.ext_getElem?
  intro j
  by_cases hj : j < n
  · rw [get_map n _ j hj]
    rcases Nat.lt_trichotomy j p with hl | he | hg
    · rw [List.append_assoc, List.getElem?_append_left (by simp; omega), List.getElem?_take_of_lt hl, get_map n f j hj]
      simp only [up]; rw [if_neg (by omega)]
    · subst he
      rw [List.append_assoc, List.getElem?_append_right (by simp only [List.length_take, List.length_map, List.length_range]; omega)]
      have e : j - (((List.range n).map f).take j).length = 0 := by simp only [List.length_take, List.length_map, List.length_range]; omega
      rw [e]
      simp [up]
    · rw [List.getElem?_append_right (by simp; omega)]
      simp only [List.length_append, List.length_take, List.length_map, List.length_range, List.length_cons, List.length_nil]
      rw [List.getElem?_drop]
      have e : p + 1 + (j - (min p n + (0 + 1))) = j := by omega
      rw [e, get_map n f j hj]
      simp only [up]; rw [if_neg (by omega)]
  · rw [List.getElem?_eq_none (by simp; omega), List.getElem?_eq_none (by simp; omega)]
theorem T_with_part : TT i_with_part = some d_with_part := rfl
theorem slice_hi (ds : List D) (p : Nat) (h : p ≤ ds.length) : slD .hi (.tup ds) [.int (p : Int)] = some (.tup (ds.take p)) := by
  show some (D.tup (cut ds none (some (p : Int)))) = _
  unfold cut sIx
  simp only [Nat.sub_zero, List.drop_zero]
  rw [if_neg (by omega)]
  congr 3
  omega
theorem slice_lo (ds : List D) (p : Nat) (h : p ≤ ds.length) : slD .lo (.tup ds) [.int (p : Int)] = some (.tup (ds.drop p)) := by
  show some (D.tup (cut ds (some (p : Int)) none)) = _
  unfold cut sIx
  simp only
  rw [if_neg (by omega)]
  have e : min (p : Int).toNat ds.length = p := by omega
  rw [e, List.take_of_length_le (by simp)]
theorem op_add_t {a b : List D} (h : a.length + b.length ≤ 1000000) : op2 .add (.tup a) (.tup b) = some (.tup (a ++ b)) := if_pos (Nat.ble_eq_true_of_le h)
theorem op_add_l {a b : List D} (h : a.length + b.length ≤ 1000000) : op2 .add (.lst a) (.lst b) = some (.lst (a ++ b)) := if_pos (Nat.ble_eq_true_of_le h)
theorem ev_with_part (k n p : Nat) (f : Nat → D) (d : D) (g : Gs) (h : p < n) (hn : n ≤ 1000) : evF TT (k + 1) i_with_part [tf n f, .int (p : Int), d] g = .ok (tf n (up f p d)) g := by
  rw [evF_s T_with_part, runF_eq rfl]
  show outR (evSs (evF TT k) b_with_part [.p (tf n f), .p (.int (p : Int)), .p d] g) = _
  have h1 := slice_hi ((List.range n).map f) p (by simp; omega)
  have h2 := slice_lo ((List.range n).map f) (p + 1) (by simp; omega)
  push_cast at h2
  have h3 := op_add_t (a := ((List.range n).map f).take p) (b := [d]) (by simp; omega)
  have h4 := op_add_t (a := ((List.range n).map f).take p ++ [d]) (b := ((List.range n).map f).drop (p + 1)) (by simp; omega)
  rw [up_map n f p d h] at h4
  simp only [b_with_part, tf, evSs_cons, evS_ret, evE_op, evE_sl, evE_var, getS_z, getS_s, slV_p, bind_ok, evIs_cons, evIs_nil, toI_int, h1, h2, h3, h4, of_some, evE_tup, evEs_cons, evEs_nil, evE_lit, op_add_i, to_ok, thenS_ret, outR_ret]
/-! ### sums -/
def sumN : Nat → (Nat → Rat) → Rat
  | 0, _ => 0
  | n + 1, x => sumN n x + x n
end Rz
/-! RzM4 -/
set_option linter.all false
set_option maxRecDepth 100000
namespace Rz
/-! ### rows, tables -/
def row (n : Nat) (x : Nat → Rat) : D := tf n fun i => fr (x i)
def idN (i j : Nat) : Rat := if i = j then 1 else 0
end Rz
/-! RzM5 -/
set_option linter.all false
set_option maxRecDepth 100000
set_option exponentiation.threshold 20000
namespace Rz
/-- the sieve at m: two numbers -/
def Sv (g : Gs) (m : Nat) : Prop := ∃ a b : Nat, g[m]? = some [.int a, .int b] ∧ b < 2147482811
theorem T_law_sieve : TT i_law_sieve = some d_law_sieve := rfl
theorem T_law_sift : TT i_law_sift = some d_law_sift := rfl
theorem T_law_some : TT i_law_some = some d_law_some := rfl
section
variable {C : Nat → List D → Gs → R D} {env : Env} {g : Gs}
theorem setx_cell {i m : Nat} {j e : Ex} {d : D} {n : Nat} {ds : List D} {g1 g2 : Gs} (h1 : evE C e env g = .ok d g1) (hs : getS env i = .p (.mref m)) (h2 : evE C j env g1 = .ok (.int (n : Int)) g2) (hg : g2[m]? = some ds) (hn : n < ds.length) (hd : D.noL d = true) :
    evS C (.setx i j e) env g = .nx env (g2.set m (ds.set n d)) := by
  show (evE C e env g).to env _ = _
  rw [h1]
  show (match getS env i with | .o (.lst ds) => _ | .o (.dic ks vs) => _ | .p (.mref a) => _ | _ => _) = _
  rw [hs]
  show (evE C j env g1).to env _ = _
  rw [h2]
  show (match g2[m]? with | some ds => (match ixN ds.length (n : Int) with | some mm => if D.noL d then SR.nx env (g2.set m (ds.set mm d)) else .no | none => .no) | none => .no) = _
  rw [hg]
  have : ixN ds.length (n : Int) = some n := by
    unfold ixN
    rw [if_pos (by omega), if_pos (by omega)]; simp
  simp only [this, hd, if_true]
theorem setx_own {i : Nat} {j e : Ex} {d : D} {n : Nat} {ds : List D} {g1 g2 : Gs} (h1 : evE C e env g = .ok d g1) (hs : getS env i = .o (.lst ds)) (h2 : evE C j env g1 = .ok (.int (n : Int)) g2) (hn : n < ds.length) :
    evS C (.setx i j e) env g = .nx (setS env i (.o (.lst (ds.set n d)))) g2 := by
  show (evE C e env g).to env _ = _
  rw [h1]
  show (match getS env i with | .o (.lst ds) => _ | .o (.dic ks vs) => _ | .p (.mref a) => _ | _ => _) = _
  rw [hs]
  show (evE C j env g1).to env _ = _
  rw [h2]
  show (match ixN ds.length (n : Int) with | some mm => SR.nx (setS env i (.o (.lst (ds.set mm d)))) g2 | none => .no) = _
  have : ixN ds.length (n : Int) = some n := by
    unfold ixN
    rw [if_pos (by omega), if_pos (by omega)]; simp
  simp only [this]
end
theorem ix_m0 {g : Gs} {m : Nat} {a b : D} (h : g[m]? = some [a, b]) : ixD g (.mref m) (.int 0) = some a := by
  show (match g[m]? with | some ds => atI ds 0 | none => none) = _
  rw [h]
  exact atI_nat [a, b] 0
theorem ix_m1 {g : Gs} {m : Nat} {a b : D} (h : g[m]? = some [a, b]) : ixD g (.mref m) (.int 1) = some b := by
  show (match g[m]? with | some ds => atI ds 1 | none => none) = _
  rw [h]
  exact atI_nat [a, b] 1
theorem bi_int_i (i : Int) : bi .int [.int i] = some (.int i) := rfl
theorem bi_int_b (b : Bool) : bi .int [.bl b] = some (.int (if b then 1 else 0)) := rfl
theorem op_fdiv_n (a b : Nat) (h : b ≠ 0) (hb : b < 2 ^ 9000) : op2 .fdiv (.int a) (.int b) = some (.int ((a / b : Nat) : Int)) := by
  rw [op_fdiv_i (divOk_small (by omega) (by simpa using hb)), fdiv_nn]; rfl
theorem op_mul_n (a b : Nat) (n m : Nat) (h1 : a < 2 ^ n) (h2 : b < 2 ^ m) (hn : 0 < n) (hm : 0 < m) (h : n + m ≤ 100000000) : op2 .mul (.int a) (.int b) = some (.int ((a * b : Nat) : Int)) := by
  rw [op_mul_i (mulOk_of (n := n) (m := m) (by simpa using h1) (by simpa using h2) hn hm h)]; rfl
theorem ev_sift (k m w : Nat) (g : Gs) (hs : Sv g m) (hw : 0 < w) (hw2 : w < 2 ^ 9000) : ∃ (r : Nat) (g' : Gs), evF TT (k + 1) i_law_sift [.mref m, .int (w : Int)] g = .ok (.int (r : Int)) g' ∧ r < w ∧ Sv g' m := by
  obtain ⟨a, b, hg, hb⟩ := hs
  have hm : m < g.length := (List.getElem?_eq_some_iff.mp hg).1
  rw [evF_s T_law_sift, runF_eq rfl]
  show ∃ (r : Nat) (g' : Gs), outR (evSs (evF TT k) b_law_sift [.p (.mref m), .p (.int (w : Int)), .u, .u] g) = _ ∧ _ ∧ _
  have i0 := ix_m0 hg
  have i1 := ix_m1 hg
  by_cases ha : 0 < a
  · refine ⟨a % w, g.set m [.int ((a / w : Nat) : Int), .int b], ?_, Nat.mod_lt _ hw, ⟨a / w, b, by simp [hm], hb⟩⟩
    have hlt : decide ((0 : Int) < (a : Int)) = true := decide_eq_true (by omega)
    rw [b_law_sift, evSs_cons, evS_ite]
    simp only [evE_op, evE_ix, evE_var, evE_lit, getS_z, getS_s, slV_p, bind_ok, i0, of_some, op_gt_i, hlt, to_ok, iteD_bl, if_true]
    have e1 : evE (evF TT k) (.op .fdiv (.bi .int [.ix (.var 0) (.lit (.int 0))]) (.var 1)) [.p (.mref m), .p (.int w), .p (.int ((a % w : Nat) : Int)), .u] g = .ok (.int ((a / w : Nat) : Int)) g := by
      simp only [evE_op, evE_bi, evEs_cons, evEs_nil, evE_ix, evE_var, evE_lit, getS_z, getS_s, slV_p, bind_ok, i0, of_some, bi_int_i, op_fdiv_n a w (by omega) hw2]
    have e2 := setx_cell (C := evF TT k) (i := 0) (j := .lit (.int 0)) (n := 0) e1 rfl rfl hg (by simp) rfl
    rw [evSs_cons, evS_asg]
    simp only [evE_op, evE_bi, evEs_cons, evEs_nil, evE_ix, evE_var, evE_lit, getS_z, getS_s, slV_p, bind_ok, i0, of_some, bi_int_i, op_mod_n a w (by omega), to_ok, setS_z, setS_s, thenS_nx]
    rw [evSs_cons, e2]
    simp only [thenS_nx, evSs_cons, evS_ret, evE_var, getS_z, getS_s, slV_p, to_ok, thenS_ret, outR_ret]
    rfl
  · have ha0 : a = 0 := by omega
    subst ha0
    have p0 : (2147482811 : Nat) ≠ 0 := by decide
    obtain ⟨b1, hb1e⟩ : ∃ b1, b1 = (b * 40009 + 1013) % 2147482811 := ⟨_, rfl⟩
    have hb1 : b1 < 2147482811 := by rw [hb1e]; exact Nat.mod_lt _ (by decide)
    obtain ⟨st, hst⟩ : ∃ st, st = b1 * (b1 / 29 + 31) % 2147482763 := ⟨_, rfl⟩
    have i0' : ixD g (.mref m) (.int 0) = some (.int 0) := i0
    have hlt : op2 .gt (.int 0) (.int 0) = some (.bl false) := rfl
    have m1 := op_mul_n b 40009 32 32 (by omega) (by decide) (by decide) (by decide) (by decide)
    have a1 : op2 .add (.int ((b * 40009 : Nat) : Int)) (.int 1013) = some (.int ((b * 40009 + 1013 : Nat) : Int)) := congrArg some (congrArg D.int (by omega))
    have m2 : op2 .mod (.int ((b * 40009 + 1013 : Nat) : Int)) (.int 2147482811) = some (.int (b1 : Nat)) := by rw [hb1e]; exact op_mod_n (b * 40009 + 1013) 2147482811 (by decide)
    have m1' : op2 .mul (.int (b : Int)) (.int 40009) = some (.int ((b * 40009 : Nat) : Int)) := m1
    have e1 : evE (evF TT k) (.op .mod (.bi .int [.op .add (.op .mul (.ix (.var 0) (.lit (.int 1))) (.lit (.int 40009))) (.lit (.int 1013))]) (.lit (.int 2147482811))) [.p (.mref m), .p (.int w), .u, .u] g = .ok (.int (b1 : Nat)) g := by
      rw [evE_op, evE_bi, evEs_cons, evE_op, evE_op, evE_ix, evE_var, getS_z, slV_p, bind_ok, evE_lit, bind_ok, i1, of_some, bind_ok, evE_lit, bind_ok, m1', of_some, bind_ok, evE_lit, bind_ok, a1, of_some, bind_ok, evEs_nil, bind_ok, bind_ok, bi_int_i, of_some, bind_ok, evE_lit, bind_ok, m2, of_some]
    have e2 := setx_cell (C := evF TT k) (i := 0) (j := .lit (.int 1)) (n := 1) e1 rfl rfl hg (by simp) rfl
    have hg2 : (g.set m ([D.int ((0 : Nat) : Int), D.int b].set 1 (.int (b1 : Nat))))[m]? = some [.int ((0 : Nat) : Int), .int (b1 : Nat)] := by simp [hm]
    generalize hge : g.set m ([D.int ((0 : Nat) : Int), D.int b].set 1 (.int (b1 : Nat))) = g2 at hg2 e2
    have i2 := ix_m1 hg2
    have f1 : op2 .fdiv (.int (b1 : Nat)) (.int 29) = some (.int ((b1 / 29 : Nat) : Int)) := op_fdiv_n b1 29 (by decide) (by decide)
    have a2 : op2 .add (.int ((b1 / 29 : Nat) : Int)) (.int 31) = some (.int ((b1 / 29 + 31 : Nat) : Int)) := congrArg some (congrArg D.int (by omega))
    have m3 := op_mul_n b1 (b1 / 29 + 31) 32 32 (by omega) (by omega) (by decide) (by decide) (by decide)
    have m4 : op2 .mod (.int ((b1 * (b1 / 29 + 31) : Nat) : Int)) (.int 2147482763) = some (.int (st : Nat)) := by rw [hst]; exact op_mod_n (b1 * (b1 / 29 + 31)) 2147482763 (by decide)
    have f2 : op2 .fdiv (.int (st : Nat)) (.int 27) = some (.int ((st / 27 : Nat) : Int)) := op_fdiv_n st 27 (by decide) (by decide)
    have m5 := op_mod_n (st / 27) w (by omega)
    refine ⟨st / 27 % w, g2, ?_, Nat.mod_lt _ hw, ⟨0, b1, hg2, hb1⟩⟩
    have e0 : evS (evF TT k) (.ite (.op .gt (.ix (.var 0) (.lit (.int 0))) (.lit (.int 0))) [.asg 2 (.op .mod (.bi .int [.ix (.var 0) (.lit (.int 0))]) (.var 1)), .setx 0 (.lit (.int 0)) (.op .fdiv (.bi .int [.ix (.var 0) (.lit (.int 0))]) (.var 1)), .ret (.var 2)] []) [.p (.mref m), .p (.int w), .u, .u] g = .nx [.p (.mref m), .p (.int w), .u, .u] g := by
      rw [evS_ite, evE_op, evE_ix, evE_var, getS_z, slV_p, bind_ok, evE_lit, bind_ok, i0', of_some, bind_ok, evE_lit, bind_ok, hlt, of_some, to_ok, iteD_bl, if_neg Bool.false_ne_true, evSs_nil]
    have e3 : evS (evF TT k) (.asg 3 (.op .mod (.op .mul (.bi .int [.ix (.var 0) (.lit (.int 1))]) (.op .add (.op .fdiv (.bi .int [.ix (.var 0) (.lit (.int 1))]) (.lit (.int 29))) (.lit (.int 31)))) (.lit (.int 2147482763)))) [.p (.mref m), .p (.int w), .u, .u] g2 = .nx [.p (.mref m), .p (.int w), .u, .p (.int (st : Nat))] g2 := by
      rw [evS_asg, evE_op, evE_op, evE_bi, evEs_cons, evE_ix, evE_var, getS_z, slV_p, bind_ok, evE_lit, bind_ok, i2, of_some, bind_ok, evEs_nil, bind_ok, bind_ok, bi_int_i, of_some, bind_ok, evE_op, evE_op, evE_bi, evEs_cons, evE_ix, evE_var, getS_z, slV_p, bind_ok, evE_lit, bind_ok, i2, of_some, bind_ok, evEs_nil, bind_ok, bind_ok, bi_int_i, of_some, bind_ok, evE_lit, bind_ok, f1, of_some, bind_ok, evE_lit, bind_ok, a2, of_some, bind_ok, m3, of_some, bind_ok, evE_lit, bind_ok, m4, of_some, to_ok]
      rfl
    have e4 : evE (evF TT k) (.op .mod (.bi .int [.op .fdiv (.bi .int [.var 3]) (.lit (.int 27))]) (.var 1)) [.p (.mref m), .p (.int w), .u, .p (.int (st : Nat))] g2 = .ok (.int ((st / 27 % w : Nat) : Int)) g2 := by
      simp only [evE_op, evE_bi, evEs_cons, evEs_nil, evE_var, evE_lit, getS_z, getS_s, slV_p, bind_ok, bi_int_i, of_some, f2, m5]
    rw [b_law_sift, evSs_cons, e0, thenS_nx, evSs_cons, e2, thenS_nx, evSs_cons, e3, thenS_nx, evSs_cons, evS_ret, e4, to_ok, thenS_ret, outR_ret]

theorem sift_n (k m w : Nat) (g : Gs) (hs : Sv g m) (hw : 0 < w) (hw2 : w < 1000000) : ∃ (r : Nat) (g' : Gs), evF TT (k + 1) i_law_sift [.mref m, .int (w : Int)] g = .ok (.int (r : Int)) g' ∧ r < w ∧ Sv g' m :=
  ev_sift k m w g hs hw (Nat.lt_of_lt_of_le hw2 (Nat.le_trans (by decide : 1000000 ≤ 2 ^ 20) (Nat.pow_le_pow_right (by decide) (by decide))))
theorem some_l (k m : Nat) (l : List D) (g : Gs) (hs : Sv g m) (hn : 0 < l.length) (hn2 : l.length < 1000) : ∃ (d : D) (g' : Gs), evF TT (k + 2) i_law_some [.mref m, .lst l] g = .ok d g' ∧ d ∈ l ∧ Sv g' m := by
  obtain ⟨r, g', h1, h2, h3⟩ := sift_n k m l.length g hs hn (by omega)
  have e : l[r]? = some l[r] := List.getElem?_eq_getElem h2
  refine ⟨l[r], g', ?_, List.getElem_mem h2, h3⟩
  rw [evF_s T_law_some, runF_eq rfl]
  show outR (evSs (evF TT (k + 1)) b_law_some [.p (.mref m), .p (.lst l)] g) = _
  have i : ixD g' (.lst l) (.int (r : Int)) = some l[r] := by rw [ix_ln, e]
  have hl : bi .len [.lst l] = some (.int (l.length : Int)) := rfl
  simp only [b_law_some, evSs_cons, evSs_nil, evS_ret, evE_ix, evE_call, evEs_cons, evEs_nil, evE_bi, evE_var, getS_z, getS_s, slV_p, bind_ok, hl, of_some, h1, i, to_ok, thenS_ret, outR_ret]
/-- a new sieve -/
theorem ev_sieve (k : Nat) (ns : List Int) (i : Nat) (g : Gs) (hi : i < 1000) : ∃ a b : Nat, evF TT (k + 1) i_law_sieve [.scr (ns.map D.int), .int (i : Int)] g = .ok (.lst [.int a, .int b]) g ∧ b < 2147482811 := by
  rw [evF_s T_law_sieve, runF_eq rfl]
  show ∃ a b : Nat, outR (evSs (evF TT k) b_law_sieve [.p (.scr (ns.map D.int)), .p (.int (i : Int)), .u] g) = _ ∧ _
  have e1 : ∃ cell : Nat, evE (evF TT k) (.ite (.op .lt (.var 1) (.bi .len [.var 0])) (.bi .abs [.bi .int [.ix (.var 0) (.var 1)]]) (.op .add (.op .mul (.lit (.int 47)) (.var 1)) (.lit (.int 23)))) [.p (.scr (ns.map D.int)), .p (.int (i : Int)), .u] g = .ok (.int cell) g := by
    have hl : bi .len [.scr (ns.map D.int)] = some (.int (ns.length : Int)) := by
      show some (D.int ((ns.map D.int).length : Int)) = _
      rw [List.length_map]
    by_cases h : i < ns.length
    · refine ⟨(ns[i]).natAbs, ?_⟩
      have hx : ixD g (.scr (ns.map D.int)) (.int (i : Int)) = some (.int ns[i]) := by
        show atI (ns.map D.int) (i : Int) = _
        rw [atI_nat, List.getElem?_map, List.getElem?_eq_getElem h]; rfl
      have hlt : decide ((i : Int) < (ns.length : Int)) = true := decide_eq_true (by omega)
      simp only [evE_ite, evE_op, evE_bi, evEs_cons, evEs_nil, evE_ix, evE_var, getS_z, getS_s, slV_p, bind_ok, hl, of_some, op_lt_i, hlt, iteD_bl, if_true, hx, bi_int_i, bi_abs_i]
    · refine ⟨47 * i + 23, ?_⟩
      have hlt : decide ((i : Int) < (ns.length : Int)) = false := decide_eq_false (by omega)
      have m : op2 .mul (.int 47) (.int (i : Int)) = some (.int ((47 * i : Nat) : Int)) := op_mul_n 47 i 32 32 (by decide) (by omega) (by decide) (by decide) (by decide)
      have a : op2 .add (.int ((47 * i : Nat) : Int)) (.int 23) = some (.int ((47 * i + 23 : Nat) : Int)) := congrArg some (congrArg D.int (by omega))
      simp only [evE_ite, evE_op, evE_bi, evEs_cons, evEs_nil, evE_ix, evE_var, evE_lit, getS_z, getS_s, slV_p, bind_ok, hl, of_some, op_lt_i, hlt, iteD_bl, Bool.false_eq_true, if_false, m, a]
  obtain ⟨cell, e1⟩ := e1
  have p1 : op2 .pow (.int 10) (.int 18) = some (.int (1000000000000000000 : Nat)) := by rfl
  have hge : op2 .ge (.int (cell : Int)) (.int (1000000000000000000 : Nat)) = some (.bl (decide (1000000000000000000 ≤ cell))) := by
    rw [op_ge_i]
    congr 2
    by_cases h : 1000000000000000000 ≤ cell
    · rw [decide_eq_true h]; exact decide_eq_true (by omega)
    · rw [decide_eq_false h]; exact decide_eq_false (by omega)
  obtain ⟨c1, hc1⟩ : ∃ c1, c1 = cell % 2147482811 := ⟨_, rfl⟩
  have hc2 : c1 < 2147482811 := by rw [hc1]; exact Nat.mod_lt _ (by decide)
  have m1 : op2 .mod (.int (cell : Int)) (.int 2147482811) = some (.int (c1 : Int)) := by rw [hc1]; exact op_mod_n cell 2147482811 (by decide)
  have m2 : op2 .mul (.int 70001) (.int (i : Int)) = some (.int ((70001 * i : Nat) : Int)) := op_mul_n 70001 i 32 32 (by decide) (by omega) (by decide) (by decide) (by decide)
  have a1 : op2 .add (.int (c1 : Int)) (.int ((70001 * i : Nat) : Int)) = some (.int ((c1 + 70001 * i : Nat) : Int)) := congrArg some (congrArg D.int (by omega))
  have a2 : op2 .add (.int ((c1 + 70001 * i : Nat) : Int)) (.int 89) = some (.int ((c1 + 70001 * i + 89 : Nat) : Int)) := congrArg some (congrArg D.int (by omega))
  obtain ⟨b, hb⟩ : ∃ b, b = (c1 + 70001 * i + 89) % 2147482811 := ⟨_, rfl⟩
  have m3 : op2 .mod (.int ((c1 + 70001 * i + 89 : Nat) : Int)) (.int 2147482811) = some (.int (b : Int)) := by rw [hb]; exact op_mod_n (c1 + 70001 * i + 89) 2147482811 (by decide)
  refine ⟨if 1000000000000000000 ≤ cell then cell else 0, b, ?_, by rw [hb]; exact Nat.mod_lt _ (by decide)⟩
  rw [b_law_sieve, evSs_cons, evS_asg, e1, to_ok, thenS_nx, evSs_cons, evS_ret, evE_lst]
  have e2 : evE (evF TT k) (.ite (.op .ge (.var 2) (.op .pow (.lit (.int 10)) (.lit (.int 18)))) (.var 2) (.lit (.int 0))) (setS [.p (.scr (ns.map D.int)), .p (.int (i : Int)), .u] 2 (.p (.int cell))) g = .ok (.int ((if 1000000000000000000 ≤ cell then cell else 0 : Nat) : Int)) g := by
    simp only [setS_s, setS_z, evE_ite, evE_op, evE_var, evE_lit, getS_s, getS_z, slV_p, bind_ok, p1, of_some, hge, iteD_bl]
    by_cases h : 1000000000000000000 ≤ cell
    · rw [decide_eq_true h, if_pos rfl, if_pos h]
    · rw [decide_eq_false h, if_neg Bool.false_ne_true, if_neg h]; rfl
  have e3 : evE (evF TT k) (.op .mod (.bi .int [.op .add (.op .add (.op .mod (.bi .int [.var 2]) (.lit (.int 2147482811))) (.op .mul (.lit (.int 70001)) (.var 1))) (.lit (.int 89))]) (.lit (.int 2147482811))) (setS [.p (.scr (ns.map D.int)), .p (.int (i : Int)), .u] 2 (.p (.int cell))) g = .ok (.int b) g := by
    simp only [setS_s, setS_z, evE_op, evE_bi, evEs_cons, evEs_nil, evE_var, evE_lit, getS_s, getS_z, slV_p, bind_ok, bi_int_i, of_some, m1, m2, a1, a2, m3]
  rw [evEs_cons, e2, bind_ok, evEs_cons, e3, bind_ok, evEs_nil, bind_ok, bind_ok, bind_ok, to_ok, thenS_ret, outR_ret]
end Rz
/-! RzM6 -/
set_option linter.all false
set_option maxRecDepth 100000
namespace Rz
/-! ### vessels, water, steps -/
structure Ves where
  room : Nat → Int
  film : Nat → Int
  beg : Nat → Int
def encV (V : Ves) (i : Nat) : D := .tup [.int (V.room i), .int (V.film i), .int (V.beg i)]
def vsD (n : Nat) (V : Ves) : D := tf n (encV V)
def wD (n : Nat) (w : Nat → Int) : D := tf n fun i => .int (w i)
inductive Stp where
  | fill (a : Nat) (z : Int)
  | pour (a b : Nat) (z : Int)
  | tip (a : Nat)
def encS : Stp → D
  | .fill a z => .tup [.str [102, 105, 108, 108], .int (a : Int), .int z]
  | .pour a b z => .tup [.str [112, 111, 117, 114], .int (a : Int), .int (b : Int), .int z]
  | .tip a => .tup [.str [116, 105, 112], .int (a : Int)]
@[simp] theorem eq_ff : op2 .eq (.str [102, 105, 108, 108]) (.str [102, 105, 108, 108]) = some (.bl true) := nr rfl
@[simp] theorem eq_fp : op2 .eq (.str [112, 111, 117, 114]) (.str [102, 105, 108, 108]) = some (.bl false) := nr rfl
@[simp] theorem eq_ft : op2 .eq (.str [116, 105, 112]) (.str [102, 105, 108, 108]) = some (.bl false) := nr rfl
@[simp] theorem eq_tf : op2 .eq (.str [102, 105, 108, 108]) (.str [116, 105, 112]) = some (.bl false) := nr rfl
@[simp] theorem eq_tp : op2 .eq (.str [112, 111, 117, 114]) (.str [116, 105, 112]) = some (.bl false) := nr rfl
@[simp] theorem eq_tt : op2 .eq (.str [116, 105, 112]) (.str [116, 105, 112]) = some (.bl true) := nr rfl
@[simp] theorem eq_pp : op2 .eq (.str [112, 111, 117, 114]) (.str [112, 111, 117, 114]) = some (.bl true) := nr rfl
@[simp] theorem eq_pt : op2 .eq (.str [116, 105, 112]) (.str [112, 111, 117, 114]) = some (.bl false) := nr rfl
@[simp] theorem eq_pf : op2 .eq (.str [102, 105, 108, 108]) (.str [112, 111, 117, 114]) = some (.bl false) := nr rfl
@[simp] theorem ne_ff : op2 .ne (.str [102, 105, 108, 108]) (.str [102, 105, 108, 108]) = some (.bl false) := nr rfl
@[simp] theorem ne_fp : op2 .ne (.str [112, 111, 117, 114]) (.str [102, 105, 108, 108]) = some (.bl true) := nr rfl
@[simp] theorem ne_ft : op2 .ne (.str [116, 105, 112]) (.str [102, 105, 108, 108]) = some (.bl true) := nr rfl
@[simp] theorem ne_pp : op2 .ne (.str [112, 111, 117, 114]) (.str [112, 111, 117, 114]) = some (.bl false) := nr rfl
/-- a step of n vessels -/
def Stp.ok (n : Nat) : Stp → Prop
  | .fill a z => a < n ∧ 1 ≤ z ∧ z ≤ 12
  | .pour a b z => a < n ∧ b < n ∧ a ≠ b ∧ 1 ≤ z ∧ z ≤ 12
  | .tip a => a < n
def mv (V : Ves) (w : Nat → Int) : Stp → Int
  | .fill a z => min z (V.room a - w a)
  | .pour a b z => min z (min (V.room b - w b) (w a - V.film a))
  | .tip a => w a - V.film a
def wn (V : Ves) (w : Nat → Int) (s : Stp) : Nat → Int := match s with
  | .fill a z => up w a (w a + mv V w (.fill a z))
  | .pour a b z => up (up w a (w a - mv V w (.pour a b z))) b (w b + mv V w (.pour a b z))
  | .tip a => up w a (V.film a)
theorem ixv {n i : Nat} {V : Ves} (h : i < n) (g : Gs) : ixD g (vsD n V) (.int (i : Int)) = some (encV V i) := ix_tf h
theorem ixw {n i : Nat} {w : Nat → Int} (h : i < n) (g : Gs) : ixD g (wD n w) (.int (i : Int)) = some (.int (w i)) := ix_tf h
theorem min2_i (x y : Int) : bi .min2 [.int x, .int y] = some (.int (min x y)) := by
  show some (D.int (if y < x then y else x)) = _
  congr 2
  omega
theorem min3_i (x y z : Int) : bi .min3 [.int x, .int y, .int z] = some (.int (min (min x y) z)) := by
  show some (D.int (if z < (if y < x then y else x) then z else (if y < x then y else x))) = _
  congr 2
  omega
theorem T_moved_by : TT i_moved_by = some d_moved_by := rfl
theorem T_waters_behind : TT i_waters_behind = some d_waters_behind := rfl
theorem T_begins : TT i_begins = some d_begins := rfl
theorem T_law_flow : TT i_law_flow = some d_law_flow := rfl
theorem T_law_start : TT i_law_start = some d_law_start := rfl
@[simp] theorem bind_nm (i : Nat) (d : D) (env : Env) : bindT (.nm i) d env = some (setS env i (.p d)) := nr rfl
@[simp] theorem bind_t3 (i j l : Nat) (a b c : D) (env : Env) : bindT (.tp [.nm i, .nm j, .nm l]) (.tup [a, b, c]) env = some (setS (setS (setS env i (.p a)) j (.p b)) l (.p c)) := nr rfl
@[simp] theorem bind_t2 (i j : Nat) (a b : D) (env : Env) : bindT (.tp [.nm i, .nm j]) (.tup [a, b]) env = some (setS (setS env i (.p a)) j (.p b)) := nr rfl
theorem ev_moved (k n : Nat) (V : Ves) (w : Nat → Int) (s : Stp) (g : Gs) (hs : s.ok n) : evF TT (k + 1) i_moved_by [vsD n V, wD n w, encS s] g = .ok (.int (mv V w s)) g := by
  rw [evF_s T_moved_by, runF_eq rfl]
  show outR (evSs (evF TT k) b_moved_by [.p (vsD n V), .p (wD n w), .p (encS s), .u, .u, .u, .u] g) = _
  cases s with
  | fill a z =>
    obtain ⟨ha, _⟩ := hs
    simp [b_moved_by, encS, ixv ha, ixw ha, encV, min2_i, op_sub_i, mv]
  | tip a =>
    simp [b_moved_by, encS, ixv (show a < n from hs), ixw (show a < n from hs), encV, op_sub_i, mv]
  | pour a b z =>
    obtain ⟨ha, hb, _⟩ := hs
    simp [b_moved_by, encS, ixv ha, ixw ha, ixv hb, ixw hb, encV, min3_i, op_sub_i, mv]
    omega
theorem ev_waters (k n : Nat) (V : Ves) (w : Nat → Int) (s : Stp) (g : Gs) (hs : s.ok n) (hn : n ≤ 1000) : evF TT (k + 2) i_waters_behind [vsD n V, wD n w, encS s] g = .ok (wD n (wn V w s)) g := by
  rw [evF_s T_waters_behind, runF_eq rfl]
  show outR (evSs (evF TT (k + 1)) b_waters_behind [.p (vsD n V), .p (wD n w), .p (encS s), .u, .u] g) = _
  have m := ev_moved k n V w s g hs
  have wp : ∀ (w : Nat → Int) (a : Nat) (z : Int), a < n → evF TT (k + 1) i_with_part [wD n w, .int (a : Int), .int z] g = .ok (wD n (up w a z)) g := fun w a z ha => by
    have := ev_with_part k n a (fun i => .int (w i)) (.int z) g ha hn
    rw [show (fun i => D.int (w i)) = (fun i => D.int (w i)) from rfl] at this
    rw [wD, this, wD]
    congr 2
    funext i
    by_cases h : i = a <;> simp [up, h]
  cases s with
  | fill a z =>
    obtain ⟨ha, _⟩ := hs
    simp only [encS] at m
    simp [b_waters_behind, encS, m, ixw ha, op_add_i, wp w a _ ha, wn]
  | tip a =>
    have ha : a < n := hs
    simp only [encS] at m
    simp [b_waters_behind, encS, m, ixw ha, op_sub_i, wp w a _ ha, wn, mv]
    congr 2
    omega
  | pour a b z =>
    obtain ⟨ha, hb, hab, _⟩ := hs
    simp only [encS] at m
    simp [b_waters_behind, encS, m, ixw ha, ixw hb, op_sub_i, op_add_i, wp _ a _ ha, wp _ b _ hb, wn]
theorem ev_begins (k n : Nat) (V : Ves) (g : Gs) (hn : n ≤ 1000) : evF TT (k + 1) i_begins [vsD n V] g = .ok (wD n V.beg) g := by
  rw [evF_s T_begins, runF_eq rfl]
  show outR (evSs (evF TT k) b_begins [.p (vsD n V), .u] g) = _
  have c : compD (evF TT k) (.ix (.var 1) (.lit (.int 2))) (.nm 1) [] [.p (vsD n V), .u] g (some ((List.range n).map (encV V))) = .ok (lf n fun i => .int (V.beg i)) g :=
    compD_n (fun i => .int (V.beg i)) (by omega) fun i hi => ⟨[.p (vsD n V), .p (encV V i)], rfl, by simp [encV]⟩
  have hi : items .seq [vsD n V] = some ((List.range n).map (encV V)) := items_seq (sq_tf _ _)
  have ht : bi .tuple [lf n fun i => .int (V.beg i)] = some (wD n V.beg) := tuple_lf _ _
  simp [b_begins, hi, c, ht]
theorem ev_law_start (k n : Nat) (V : Ves) (g : Gs) (hn : n ≤ 1000) : evF TT (k + 1) i_law_start [vsD n V] g = .ok (wD n V.beg) g := by
  rw [evF_s T_law_start, runF_eq rfl]
  show outR (evSs (evF TT k) b_law_start [.p (vsD n V), .u] g) = _
  have c : compD (evF TT k) (.ix (.var 1) (.lit (.int 2))) (.nm 1) [] [.p (vsD n V), .u] g (some ((List.range n).map (encV V))) = .ok (lf n fun i => .int (V.beg i)) g :=
    compD_n (fun i => .int (V.beg i)) (by omega) fun i hi => ⟨[.p (vsD n V), .p (encV V i)], rfl, by simp [encV]⟩
  have hi : items .seq [vsD n V] = some ((List.range n).map (encV V)) := items_seq (sq_tf _ _)
  have ht : bi .tuple [lf n fun i => .int (V.beg i)] = some (wD n V.beg) := tuple_lf _ _
  simp [b_law_start, hi, c, ht]

/-- an own list in slot i, its part a written -/
theorem lf_set (n : Nat) (f : Nat → D) (a : Nat) (d : D) (h : a < n) : ((List.range n).map f).set a d = (List.range n).map (up f a d) := by
  apply List.ext_getElem?
  intro j
  rw [List.getElem?_set]
  by_cases hj : j < n
  · rw [get_map n _ j hj, get_map n _ j hj]
    by_cases hp : a = j
    · subst hp; simp [up, h]
    · rw [if_neg hp]; simp only [up]; rw [if_neg (fun z => hp z.symm)]
  · rw [List.getElem?_eq_none (by simp; omega), List.getElem?_eq_none (by simp; omega)]
    by_cases hp : a = j
    · omega
    · rw [if_neg hp]
theorem setx_lf {C : Nat → List D → Gs → R D} {env : Env} {g : Gs} {i n a : Nat} {j e : Ex} {d : D} {f : Nat → D} (h1 : evE C e env g = .ok d g) (hs : getS env i = .o (lf n f)) (h2 : evE C j env g = .ok (.int (a : Int)) g) (ha : a < n) :
    evS C (.setx i j e) env g = .nx (setS env i (.o (lf n (up f a d)))) g := by
  rw [setx_own (n := a) h1 hs h2 (by simp; exact ha), lf_set n f a d ha]; rfl
theorem wl_up (n : Nat) (w : Nat → Int) (a : Nat) (z : Int) : (lf n (up (fun i => D.int (w i)) a (.int z))) = lf n fun i => .int (up w a z i) := by
  unfold lf; congr 2; funext i; by_cases h : i = a <;> simp [up, h]
@[simp] theorem isLst_lf (n : Nat) (f : Nat → D) : isLst (lf n f) = true := nr rfl
@[simp] theorem frzS_1 (env : Env) (i : Nat) : frz [i] env = frzS env i := nr rfl
@[simp] theorem frzS_z (s : Sl) (r : Env) : frzS (s :: r) 0 = s.fr :: r := nr rfl
@[simp] theorem frzS_s (s : Sl) (r : Env) (i : Nat) : frzS (s :: r) (i + 1) = s :: frzS r i := nr rfl
@[simp] theorem fr_o (d : D) : Sl.fr (.o d) = .p d := nr rfl
@[simp] theorem fr_p (d : D) : Sl.fr (.p d) = .p d := nr rfl
@[simp] theorem setPar_nil (env : Env) : setPar [] [] env = some env := nr rfl
@[simp] theorem setPar_cons (o : Bool) (i : Nat) (ts : List (Bool × Nat)) (d : D) (ds : List D) (env : Env) : setPar ((o, i) :: ts) (d :: ds) env = if o && !isLst d then none else setPar ts ds (setS env i (if o then .o d else .p d)) := nr rfl
theorem ev_law_flow (k n : Nat) (V : Ves) (w : Nat → Int) (s : Stp) (g : Gs) (hs : s.ok n) (hn : n ≤ 1000) : evF TT (k + 1) i_law_flow [vsD n V, wD n w, encS s] g = .ok (.tup [.int (mv V w s), wD n (wn V w s)]) g := by
  rw [evF_s T_law_flow, runF_eq rfl]
  show outR (evSs (evF TT k) b_law_flow [.p (vsD n V), .p (wD n w), .p (encS s), .u, .u, .u, .u] g) = _
  have hl : bi .list [wD n w] = some (lf n fun i => .int (w i)) := list_tf _ _
  have ht : ∀ w : Nat → Int, bi .tuple [lf n fun i => .int (w i)] = some (wD n w) := fun w => tuple_lf _ _
  cases s with
  | fill a z =>
    obtain ⟨ha, _⟩ := hs
    have e : evS (evF TT k) (.setx 4 (.var 3) (.op .add (.ix (.var 1) (.var 3)) (.var 5))) [.p (vsD n V), .p (wD n w), .p (encS (.fill a z)), .p (.int a), .o (lf n fun i => .int (w i)), .p (.int (mv V w (.fill a z))), .u] g = .nx [.p (vsD n V), .p (wD n w), .p (encS (.fill a z)), .p (.int a), .o (lf n fun i => .int (wn V w (.fill a z) i)), .p (.int (mv V w (.fill a z))), .u] g := by
      rw [setx_lf (d := .int (w a + mv V w (.fill a z))) (by simp [ixw ha, op_add_i]) rfl (by simp) ha, wl_up]; rfl
    simp only [encS, mv] at e
    simp [b_law_flow, encS, hl, ixv ha, ixw ha, encV, op_sub_i, min2_i, e, ht, mv]
  | tip a =>
    have ha : a < n := hs
    have e : evS (evF TT k) (.setx 4 (.var 3) (.ix (.ix (.var 0) (.var 3)) (.lit (.int 1)))) [.p (vsD n V), .p (wD n w), .p (encS (.tip a)), .p (.int a), .o (lf n fun i => .int (w i)), .p (.int (mv V w (.tip a))), .u] g = .nx [.p (vsD n V), .p (wD n w), .p (encS (.tip a)), .p (.int a), .o (lf n fun i => .int (wn V w (.tip a) i)), .p (.int (mv V w (.tip a))), .u] g := by
      rw [setx_lf (d := .int (V.film a)) (by simp [ixv ha, encV]) rfl (by simp) ha, wl_up]; rfl
    simp only [encS, mv] at e
    simp [b_law_flow, encS, hl, ixv ha, ixw ha, encV, op_sub_i, e, ht, mv]
  | pour a b z =>
    obtain ⟨ha, hb, hab, _⟩ := hs
    have e : evS (evF TT k) (.setx 4 (.var 3) (.op .sub (.ix (.var 1) (.var 3)) (.var 5))) [.p (vsD n V), .p (wD n w), .p (encS (.pour a b z)), .p (.int a), .o (lf n fun i => .int (w i)), .p (.int (mv V w (.pour a b z))), .p (.int b)] g = .nx [.p (vsD n V), .p (wD n w), .p (encS (.pour a b z)), .p (.int a), .o (lf n fun i => .int (up w a (w a - mv V w (.pour a b z)) i)), .p (.int (mv V w (.pour a b z))), .p (.int b)] g := by
      rw [setx_lf (d := .int (w a - mv V w (.pour a b z))) (by simp [ixw ha, op_sub_i]) rfl (by simp) ha, wl_up]; rfl
    have e2 : evS (evF TT k) (.setx 4 (.var 6) (.op .add (.ix (.var 1) (.var 6)) (.var 5))) [.p (vsD n V), .p (wD n w), .p (encS (.pour a b z)), .p (.int a), .o (lf n fun i => .int (up w a (w a - mv V w (.pour a b z)) i)), .p (.int (mv V w (.pour a b z))), .p (.int b)] g = .nx [.p (vsD n V), .p (wD n w), .p (encS (.pour a b z)), .p (.int a), .o (lf n fun i => .int (wn V w (.pour a b z) i)), .p (.int (mv V w (.pour a b z))), .p (.int b)] g := by
      rw [setx_lf (d := .int (w b + mv V w (.pour a b z))) (by simp [ixw hb, op_add_i]) rfl (by simp) hb, wl_up]; rfl
    simp only [encS, mv] at e e2
    simp [b_law_flow, encS, hl, ixv ha, ixw ha, ixv hb, ixw hb, encV, op_sub_i, min2_i, e, e2, ht, mv]
end Rz
/-! RzM7 -/
set_option linter.all false
set_option maxRecDepth 100000
namespace Rz
theorem T_law_step : TT i_law_step = some d_law_step := rfl
theorem T_law_vessels : TT i_law_vessels = some d_law_vessels := rfl
theorem T_law_way : TT i_law_way = some d_law_way := rfl
/-- a number below w, told as an int -/
theorem sift_i (k m : Nat) (w : Int) (g : Gs) (hs : Sv g m) (hw : 0 < w) (hw2 : w < 1000000) : ∃ (r : Int) (g' : Gs), evF TT (k + 1) i_law_sift [.mref m, .int w] g = .ok (.int r) g' ∧ 0 ≤ r ∧ r < w ∧ Sv g' m := by
  obtain ⟨n, rfl⟩ := Int.eq_ofNat_of_zero_le (Int.le_of_lt hw)
  obtain ⟨r, g', h1, h2, h3⟩ := sift_n k m n g hs (by omega) (by omega)
  exact ⟨r, g', h1, by omega, by omega, h3⟩
theorem some_i (k m : Nat) (l : List Int) (g : Gs) (hs : Sv g m) (hn : 0 < l.length) (hn2 : l.length < 1000) : ∃ (d : Int) (g' : Gs), evF TT (k + 2) i_law_some [.mref m, .lst (l.map D.int)] g = .ok (.int d) g' ∧ d ∈ l ∧ Sv g' m := by
  obtain ⟨d, g', h1, h2, h3⟩ := some_l k m (l.map D.int) g hs (by simpa using hn) (by simpa using hn2)
  obtain ⟨x, hx, rfl⟩ := List.mem_map.mp h2
  exact ⟨x, g', h1, hx, h3⟩
theorem ev_law_step (k m n : Nat) (g : Gs) (hs : Sv g m) (h0 : 0 < n) (hn : n ≤ 1000) : ∃ (s : Stp) (g' : Gs), evF TT (k + 3) i_law_step [.mref m, .int (n : Int)] g = .ok (encS s) g' ∧ s.ok n ∧ Sv g' m := by
  obtain ⟨a, g1, h1, ha, hs1⟩ := sift_n (k + 1) m n g hs h0 (by omega)
  obtain ⟨kd, g2, h2, hk0, hk, hs2⟩ := sift_i (k + 1) m 5 g1 hs1 (by decide) (by decide)
  obtain ⟨d, g3, h3, hd, hs3⟩ := some_i k m [4, 12] g2 hs2 (by decide) (by decide)
  obtain ⟨z, g4, h4, hz0, hz, hs4⟩ := sift_i (k + 1) m d g3 hs3 (by simp at hd; omega) (by simp at hd; omega)
  have hz12 : 1 + z ≤ 12 := by simp at hd; omega
  simp only [List.map_cons, List.map_nil] at h3
  rw [evF_s T_law_step]
  by_cases c1 : kd < 2
  · refine ⟨.fill a (1 + z), g4, ?_, ⟨ha, by omega, hz12⟩, hs4⟩
    rw [runF_eq rfl]
    show outR (evSs (evF TT (k + 2)) b_law_step [.p (.mref m), .p (.int (n : Int)), .u, .u, .u, .u] g) = _
    simp [b_law_step, h1, h2, h3, h4, op_add_i, op_lt_i, c1, encS]
  · by_cases c2 : kd < 4 ∧ 1 < n
    · obtain ⟨t, g5, h5, ht, hs5⟩ := sift_n (k + 1) m (n - 1) g4 hs4 (by omega) (by omega)
      have e : ((n - 1 : Nat) : Int) = (n : Int) - 1 := by omega
      rw [e] at h5
      refine ⟨.pour a ((a + 1 + t) % n) (1 + z), g5, ?_, ⟨ha, Nat.mod_lt _ h0, ?_, by omega, hz12⟩, hs5⟩
      · rw [runF_eq rfl]
        show outR (evSs (evF TT (k + 2)) b_law_step [.p (.mref m), .p (.int (n : Int)), .u, .u, .u, .u] g) = _
        have m1 : op2 .mod (.int ((a : Int) + 1 + t)) (.int (n : Int)) = some (.int (((a + 1 + t) % n : Nat) : Int)) := by
          have := op_mod_n (a + 1 + t) n (by omega)
          rw [← this]; congr 2
        have hc : (1 : Int) < n := by omega
        simp only [encS, b_law_step, evSs_cons, evS_par, evEs_cons, evEs_nil, evE_call, evE_var, evE_lit, getS_z, getS_s, slV_p, bind_ok, h1, h2, parD_ok, setPar_cons, setPar_nil, Bool.false_and, Bool.false_eq_true, if_false, setS_s, setS_z, nxO_some, thenS_nx, evS_asg, evE_op, evE_lst, h3, h4, op_add_i, of_some, to_ok, evS_ite, op_lt_i, c1, decide_false, iteD_bl, evSs_nil, evE_and, c2.1, decide_true, if_true, op_gt_i, hc, op_sub_i, h5, m1, evS_ret, evE_tup, thenS_ret, outR_ret]
      · intro he
        rcases Nat.lt_or_ge (a + 1 + t) n with hl | hg
        · rw [Nat.mod_eq_of_lt hl] at he; omega
        · rw [Nat.mod_eq_sub_mod hg, Nat.mod_eq_of_lt (by omega)] at he; omega
    · refine ⟨.tip a, g4, ?_, ha, hs4⟩
      rw [runF_eq rfl]
      show outR (evSs (evF TT (k + 2)) b_law_step [.p (.mref m), .p (.int (n : Int)), .u, .u, .u, .u] g) = _
      by_cases c3 : kd < 4
      · have hc : ¬ ((1 : Int) < n) := fun z => c2 ⟨c3, by omega⟩
        have hc2 : ¬ (1 < n) := by omega
        simp [b_law_step, h1, h2, h3, h4, op_add_i, op_lt_i, op_gt_i, c1, c3, hc, hc2, encS]
      · simp [b_law_step, h1, h2, h3, h4, op_add_i, op_lt_i, op_gt_i, c1, c3, encS]
/-! ### vessels -/
structure VOk (V : Ves) (i : Nat) : Prop where
  r1 : 2 ≤ V.room i
  r2 : V.room i ≤ 12
  f1 : 1 ≤ V.film i
  f2 : V.film i ≤ V.room i - 1
  b1 : V.film i ≤ V.beg i
  b2 : V.beg i ≤ V.room i
def upV (V : Ves) (p : Nat) (r f b : Int) : Ves := ⟨up V.room p r, up V.film p f, up V.beg p b⟩
theorem upV_ok {V : Ves} {p i : Nat} {r f b : Int} (h : i ≠ p → VOk V i) (hp : 2 ≤ r ∧ r ≤ 12 ∧ 1 ≤ f ∧ f ≤ r - 1 ∧ f ≤ b ∧ b ≤ r) : VOk (upV V p r f b) i := by
  by_cases c : i = p
  · subst c; constructor <;> simp [upV, up] <;> omega
  · have := h c
    constructor <;> simp [upV, up, c]
    · exact this.r1
    · exact this.r2
    · exact this.f1
    · exact this.f2
    · exact this.b1
    · exact this.b2
theorem vsD_snoc (i : Nat) (V : Ves) (r f b : Int) : vsD (i + 1) (upV V i r f b) = .tup ((List.range i).map (encV V) ++ [.tup [.int r, .int f, .int b]]) := by
  unfold vsD tf
  rw [List.range_succ, List.map_append]
  congr 2
  · apply List.map_congr_left
    intro j hj
    have : j ≠ i := by have := List.mem_range.mp hj; omega
    simp [encV, upV, up, this]
  · simp [encV, upV, up]
theorem ev_law_vessels (k m least : Nat) (g : Gs) (hs : Sv g m) (h1 : 1 ≤ least) (h3 : least ≤ 3) : ∃ (n : Nat) (V : Ves) (g' : Gs), evF TT (k + 3) i_law_vessels [.mref m, .int (least : Int)] g = .ok (vsD n V) g' ∧ least ≤ n ∧ n ≤ 3 ∧ (∀ i, i < n → VOk V i) ∧ Sv g' m := by
  have e0 : ((4 - least : Nat) : Int) = 4 - (least : Int) := by omega
  obtain ⟨t, g1, q1, ht, hs1⟩ := sift_n (k + 1) m (4 - least) g hs (by omega) (by omega)
  rw [e0] at q1
  rw [evF_s T_law_vessels, runF_eq rfl]
  show ∃ (n : Nat) (V : Ves) (g' : Gs), outR (evSs (evF TT (k + 2)) b_law_vessels [.p (.mref m), .p (.int (least : Int)), .u, .u, .u, .u, .u] g) = _ ∧ _
  have er : items .rng [.int ((least : Int) + t)] = some ((List.range (least + t)).map fun (i : Nat) => D.int (i : Int)) := by
    have := items_rng (n := least + t) (by omega)
    push_cast at this; exact this
  generalize hb : ([St.asg 4 (.op .add (.lit (.int 2)) (.call i_law_sift [.var 0, .call i_law_some [.var 0, .lst [.lit (.int 4), .lit (.int 11)]]])), .asg 5 (.op .add (.lit (.int 1)) (.call i_law_sift [.var 0, .call i_law_some [.var 0, .lst [.lit (.int 1),
    .op .sub (.var 4) (.lit (.int 1))]]])), .asg 6 (.op .mul (.call i_law_sift [.var 0, .op .add (.op .sub (.var 4) (.var 5)) (.lit (.int 1))]) (.call i_law_sift [.var 0, .lit (.int 2)])), .asg 2 (.op .add (.var 2) (.tup [.tup [.var 4, .var 5,
    .op .add (.var 5) (.var 6)]]))] : List St) = body
  obtain ⟨env', g', f1, V, hV, y4, y5, y6, y3, he, hs'⟩ := forL_n (t := .nm 3) (f := fun (i : Nat) => D.int (i : Int)) (b := bodyOf (evF TT (k + 2)) body) (env := [.p (.mref m), .p (.int (least : Int)), .p (.tup []), .u, .u, .u, .u]) (g := g1)
    (fun i e g => ∃ V : Ves, (∀ j, j < i → VOk V j) ∧ ∃ y4 y5 y6 y3, e = [.p (.mref m), .p (.int (least : Int)), .p (vsD i V), y3, y4, y5, y6] ∧ Sv g m) (least + t) (fun i e g hi ⟨V, hV, y4, y5, y6, y3, he, hs⟩ => by
      subst he
      obtain ⟨d1, g2, q2, hd1, hs2⟩ := some_i k m [4, 11] g hs (by decide) (by decide)
      obtain ⟨r, g3, q3, hr0, hr, hs3⟩ := sift_i (k + 1) m d1 g2 hs2 (by simp at hd1; omega) (by simp at hd1; omega)
      have hr11 : r < 11 := by simp at hd1; omega
      obtain ⟨d2, g4, q4, hd2, hs4⟩ := some_i k m [1, 2 + r - 1] g3 hs3 (by simp) (by simp)
      obtain ⟨f, g5, q5, hf0, hf, hs5⟩ := sift_i (k + 1) m d2 g4 hs4 (by simp at hd2; omega) (by simp at hd2; omega)
      have hfr : 1 + f ≤ 2 + r - 1 := by simp at hd2; omega
      obtain ⟨p, g6, q6, hp0, hp, hs6⟩ := sift_i (k + 1) m (2 + r - (1 + f) + 1) g5 hs5 (by omega) (by omega)
      obtain ⟨z, g7, q7, hz0, hz, hs7⟩ := sift_i (k + 1) m 2 g6 hs6 (by decide) (by decide)
      have hmul : op2 .mul (.int p) (.int z) = some (.int (p * z)) := op_mul_i (mulOk_of (n := 32) (m := 32) (by omega) (by omega) (by decide) (by decide) (by decide))
      have hpz : 0 ≤ p * z ∧ p * z ≤ p := by
        have : z = 0 ∨ z = 1 := by omega
        rcases this with rfl | rfl <;> omega
      simp only [List.map_cons, List.map_nil] at q2 q4
      have ha : op2 .add (vsD i V) (.tup [.tup [.int (2 + r), .int (1 + f), .int (1 + f + p * z)]]) = some (vsD (i + 1) (upV V i (2 + r) (1 + f) (1 + f + p * z))) := by
        rw [vsD_snoc]
        exact op_add_t (by simp; omega)
      refine ⟨[.p (.mref m), .p (.int (least : Int)), .p (vsD i V), .p (.int i), y4, y5, y6], rfl, [.p (.mref m), .p (.int (least : Int)), .p (vsD (i + 1) (upV V i (2 + r) (1 + f) (1 + f + p * z))), .p (.int i), .p (.int (2 + r)), .p (.int (1 + f)), .p (.int (p * z))], g7, .inl ?_, upV V i (2 + r) (1 + f) (1 + f + p * z), fun j hj => upV_ok (fun c => hV j (by omega)) (by omega), _, _, _, _, rfl, hs7⟩
      rw [bodyOf_eq, ← hb]
      simp only [evSs_cons, evSs_nil, evS_asg, evE_op, evE_lit, evE_call, evEs_cons, evEs_nil, evE_var, evE_lst, evE_tup, getS_z, getS_s, slV_p, bind_ok, q2, q3, op_add_i, of_some, to_ok, setS_z, setS_s, thenS_nx, op_sub_i, q4, q5, q6, q7, hmul, ha]) ⟨V0, fun j hj => by omega, .u, .u, .u, .u, rfl, hs1⟩
  refine ⟨least + t, V, g', ?_, by omega, by omega, hV, hs'⟩
  subst he
  rw [b_law_vessels, hb]
  simp only [evSs_cons, evSs_nil, evS_asg, evE_tup, evEs_nil, bind_ok, to_ok, setS_z, setS_s, thenS_nx, evS_for, evEs_cons, evE_op, evE_var, evE_call, evE_lit, getS_z, getS_s, slV_p, op_sub_i, of_some, q1, op_add_i, fork_ok, er, forD_some, f1, evS_ret, thenS_ret, outR_ret]
where V0 : Ves := ⟨fun _ => 0, fun _ => 0, fun _ => 0⟩

/-! ### ways -/
def wat (V : Ves) (w : Nat → Int) (ss : List Stp) : Nat → Int := ss.foldl (wn V) w
def ssD (ss : List Stp) : D := .tup (ss.map encS)
def wayD (n : Nat) (V : Ves) (ss : List Stp) : D := .tup [vsD n V, ssD ss]
structure WOk (V : Ves) (n : Nat) (w : Nat → Int) : Prop where
  lo : ∀ i, i < n → V.film i ≤ w i
  hi : ∀ i, i < n → w i ≤ V.room i
theorem wn_ok {V : Ves} {n : Nat} {w : Nat → Int} {s : Stp} (hV : ∀ i, i < n → VOk V i) (h : WOk V n w) (hs : s.ok n) : WOk V n (wn V w s) := by
  cases s with
  | fill a z =>
    obtain ⟨ha, hz⟩ := hs
    constructor <;> intro i hi <;> have h1 := h.lo i hi <;> have h2 := h.hi i hi <;> by_cases c : i = a <;> simp [wn, up, mv, c] <;> (try subst c) <;> omega
  | tip a =>
    constructor <;> intro i hi <;> have h1 := h.lo i hi <;> have h2 := h.hi i hi <;> have h3 := (hV i hi).f2 <;> by_cases c : i = a <;> simp [wn, up, c] <;> (try subst c) <;> omega
  | pour a b z =>
    obtain ⟨ha, hb, hab, hz⟩ := hs
    have a1 := h.lo a ha
    have a2 := h.hi a ha
    have b1 := h.lo b hb
    have b2 := h.hi b hb
    constructor <;> intro i hi <;> have h1 := h.lo i hi <;> have h2 := h.hi i hi <;> by_cases c : i = b <;> by_cases c2 : i = a <;> simp [wn, up, mv, c, c2] <;> (try subst c) <;> (try subst c2) <;> omega
theorem wat_ok {V : Ves} {n : Nat} (hV : ∀ i, i < n → VOk V i) : ∀ (ss : List Stp) {w : Nat → Int}, WOk V n w → (∀ s ∈ ss, s.ok n) → WOk V n (wat V w ss)
  | [], _, h, _ => h
  | s :: ss, _, h, hs => wat_ok hV ss (wn_ok hV h (hs s (List.mem_cons_self ..))) fun t ht => hs t (List.mem_cons_of_mem _ ht)
theorem wat_snoc (V : Ves) (w : Nat → Int) (ss : List Stp) (s : Stp) : wat V w (ss ++ [s]) = wn V (wat V w ss) s := by
  unfold wat; rw [List.foldl_append]; rfl
theorem wat_app (V : Ves) (w : Nat → Int) (ss ts : List Stp) : wat V w (ss ++ ts) = wat V (wat V w ss) ts := by
  unfold wat; rw [List.foldl_append]
theorem beg_ok {V : Ves} {n : Nat} (hV : ∀ i, i < n → VOk V i) : WOk V n V.beg := ⟨fun i hi => (hV i hi).b1, fun i hi => (hV i hi).b2⟩
theorem wD_congr {n : Nat} {w w' : Nat → Int} (h : ∀ i, i < n → w i = w' i) : wD n w = wD n w' := by
  unfold wD tf
  congr 1
  exact List.map_congr_left fun i hi => by rw [h i (List.mem_range.mp hi)]
@[simp] theorem blt0 : Nat.blt ([] : List D).length lineN = true := nr rfl
@[simp] theorem blt1 (d : D) : Nat.blt [d].length lineN = true := nr rfl
theorem tuple_l (ds : List D) : bi .tuple [.lst ds] = some (.tup ds) := rfl
theorem len_t (ds : List D) : bi .len [.tup ds] = some (.int (ds.length : Int)) := rfl
@[simp] theorem isLst_l (ds : List D) : isLst (.lst ds) = true := nr rfl
/-- what a way of the law is -/
structure WayOk (n : Nat) (V : Ves) (ss : List Stp) : Prop where
  n0 : 0 < n
  n3 : n ≤ 3
  vok : ∀ i, i < n → VOk V i
  s0 : 0 < ss.length
  s8 : ss.length ≤ 8
  sok : ∀ s ∈ ss, s.ok n
  back : ∀ i, i < n → wat V V.beg ss i = V.beg i
theorem hL0 : 0 < lineN := by decide
theorem hL1 : 1 < lineN := by decide
theorem ssD_add (ss : List Stp) (ts : List Stp) (h : ss.length + ts.length ≤ 1000) : op2 .add (ssD ss) (.tup (ts.map encS)) = some (ssD (ss ++ ts)) := by
  unfold ssD
  rw [op_add_t (by simp; omega), List.map_append]
theorem ev_law_way (k m n : Nat) (V : Ves) (g : Gs) (hs : Sv g m) (h1 : 1 ≤ n) (h3 : n ≤ 3) (hV : ∀ i, i < n → VOk V i) : ∃ (ss : List Stp) (g' : Gs), evF TT (k + 4) i_law_way [.mref m, vsD n V] g = .ok (wayD n V ss) g' ∧ WayOk n V ss ∧ Sv g' m := by
  have e0 : ((8 - 2 * n : Nat) : Int) = 8 - 2 * (n : Int) := by omega
  obtain ⟨t, g1, q1, ht, hs1⟩ := sift_n (k + 2) m (8 - 2 * n) g hs (by omega) (by omega)
  rw [e0] at q1
  rw [evF_s T_law_way, runF_eq rfl]
  show ∃ (ss : List Stp) (g' : Gs), outR (evSs (evF TT (k + 3)) b_law_way [.p (.mref m), .p (vsD n V), .u, .u, .u, .u, .u, .u, .u] g) = _ ∧ _
  have er : items .rng [.int (1 + (t : Int))] = some ((List.range (1 + t)).map fun (i : Nat) => D.int (i : Int)) := by
    have := items_rng (n := 1 + t) (by omega)
    push_cast at this; exact this
  have hl : bi .len [vsD n V] = some (.int (n : Int)) := len_tf _ _
  have hm2 : op2 .mul (.int 2) (.int (n : Int)) = some (.int (2 * (n : Int))) := op_mul_i (mulOk_of (n := 32) (m := 32) (by decide) (by omega) (by decide) (by decide) (by decide))
  have hst := ev_law_start (k + 2) n V g (by omega)
  generalize hb : ([St.asg 5 (.call i_law_step [.var 0, .bi .len [.var 1]]), .par [(false, 2), (false, 3)] [.op .add (.var 2) (.tup [.var 5]), .ix (.call i_law_flow [.var 1, .var 3, .var 5]) (.lit (.int 1))]] : List St) = body
  generalize hb2 : ([St.par [(true, 7), (false, 8)] [.lst [], .op .sub (.ix (.ix (.var 1) (.var 6)) (.lit (.int 2))) (.ix (.var 3) (.var 6))],
    .ite (.op .lt (.var 8) (.lit (.int 0))) [.par [(true, 7), (false, 8)] [.lst [.tup [.lit (.str [116, 105, 112]), .var 6]],
    .op .sub (.ix (.ix (.var 1) (.var 6)) (.lit (.int 2))) (.ix (.ix (.var 1) (.var 6)) (.lit (.int 1)))]] [],
    .ite (.op .gt (.var 8) (.lit (.int 0))) [.app 7 (.tup [.lit (.str [102, 105, 108, 108]), .var 6, .var 8])] [], .frz [7],
    .asg 2 (.op .add (.var 2) (.bi .tuple [.var 7]))] : List St) = body2
  obtain ⟨env', g', f1, ss, hss, hlen, y4, y5, y6, y7, y8, he, hs'⟩ := forL_n (t := .nm 4) (f := fun (i : Nat) => D.int (i : Int)) (b := bodyOf (evF TT (k + 3)) body) (env := [.p (.mref m), .p (vsD n V), .p (.tup []), .p (wD n V.beg), .u, .u, .u, .u, .u]) (g := g1)
    (fun i e g => ∃ ss : List Stp, (∀ s ∈ ss, s.ok n) ∧ ss.length = i ∧ ∃ y4 y5 y6 y7 y8, e = [.p (.mref m), .p (vsD n V), .p (ssD ss), .p (wD n (wat V V.beg ss)), y4, y5, y6, y7, y8] ∧ Sv g m) (1 + t) (fun i e g hi ⟨ss, hss, hlen, y4, y5, y6, y7, y8, he, hs⟩ => by
      subst he
      obtain ⟨s, g2, q2, hok, hs2⟩ := ev_law_step k m n g hs h1 (by omega)
      have q3 := ev_law_flow (k + 2) n V (wat V V.beg ss) s g2 hok (by omega)
      have ha := ssD_add ss [s] (by simp; omega)
      simp only [List.map_cons, List.map_nil] at ha
      refine ⟨[.p (.mref m), .p (vsD n V), .p (ssD ss), .p (wD n (wat V V.beg ss)), .p (.int i), y5, y6, y7, y8], rfl, [.p (.mref m), .p (vsD n V), .p (ssD (ss ++ [s])), .p (wD n (wat V V.beg (ss ++ [s]))), .p (.int i), .p (encS s), y6, y7, y8], g2, .inl ?_, ss ++ [s], fun x hx => (List.mem_append.mp hx).elim (hss x) fun z => by rw [List.mem_singleton.mp z]; exact hok, by simp [hlen], _, _, _, _, _, rfl, hs2⟩
      rw [bodyOf_eq, ← hb, wat_snoc]
      simp [hl, q2, q3, ha]) ⟨[], fun s hs => (List.not_mem_nil hs).elim, rfl, .u, .u, .u, .u, .u, rfl, hs1⟩
  have ok1 := wat_ok hV ss (beg_ok hV) hss
  obtain ⟨env2, g2, f2, ts, hts, hl1, hl2, hw, y4', y5', y6', y7', y8', he2, hs2⟩ := forL_n (t := .nm 6) (f := fun (i : Nat) => D.int (i : Int)) (b := bodyOf (evF TT (k + 3)) body2) (env := [.p (.mref m), .p (vsD n V), .p (ssD ss), .p (wD n (wat V V.beg ss)), y4, y5, y6, y7, y8]) (g := g')
    (fun i e g => ∃ ts : List Stp, (∀ s ∈ ts, s.ok n) ∧ ss.length ≤ ts.length ∧ ts.length ≤ ss.length + 2 * i ∧ (∀ j, j < n → wat V V.beg ts j = if j < i then V.beg j else wat V V.beg ss j) ∧ ∃ y4 y5 y6 y7 y8, e = [.p (.mref m), .p (vsD n V), .p (ssD ts), .p (wD n (wat V V.beg ss)), y4, y5, y6, y7, y8] ∧ Sv g m) n (fun i e g hi ⟨ts, hts, hl1, hl2, hw, y4, y5, y6, y7, y8, he, hs⟩ => by
      subst he
      have b1 := (hV i hi).b1
      have b2 := (hV i hi).b2
      have r2 := (hV i hi).r2
      have f1' := (hV i hi).f1
      have w1 := ok1.lo i hi
      have w2 := ok1.hi i hi
      have hwi : wat V V.beg ts i = wat V V.beg ss i := by rw [hw i hi, if_neg (by omega)]
      have key : ∃ us : List Stp, (∀ s ∈ us, s.ok n) ∧ us.length ≤ 2 ∧ (∀ j, j < n → wat V V.beg (ts ++ us) j = if j < i + 1 then V.beg j else wat V V.beg ss j) ∧ ∃ z8, bodyOf (evF TT (k + 3)) body2 [.p (.mref m), .p (vsD n V), .p (ssD ts), .p (wD n (wat V V.beg ss)), y4, y5, .p (.int i), y7, y8] g = .nx [.p (.mref m), .p (vsD n V), .p (ssD (ts ++ us)), .p (wD n (wat V V.beg ss)), y4, y5, .p (.int i), .p (.lst (us.map encS)), .p (.int z8)] g := by
        have step : ∀ us : List Stp, (∀ j, j < n → wat V (wat V V.beg ts) us j = if j = i then V.beg i else wat V V.beg ts j) → ∀ j, j < n → wat V V.beg (ts ++ us) j = if j < i + 1 then V.beg j else wat V V.beg ss j := fun us hu j hj => by
          rw [wat_app, hu j hj]
          by_cases c : j = i
          · subst c; rw [if_pos rfl, if_pos (by omega)]
          · rw [if_neg c, hw j hj]
            by_cases c2 : j < i
            · rw [if_pos c2, if_pos (by omega)]
            · rw [if_neg c2, if_neg (by omega)]
        by_cases c1 : V.beg i - wat V V.beg ss i < 0
        · by_cases c2 : 0 < V.beg i - V.film i
          · have ha := ssD_add ts [.tip i, .fill i (V.beg i - V.film i)] (by simp; omega)
            simp only [List.map_cons, List.map_nil, encS] at ha
            refine ⟨[.tip i, .fill i (V.beg i - V.film i)], fun s hs => ?_, by simp, step _ fun j hj => ?_, V.beg i - V.film i, ?_⟩
            · rcases List.mem_cons.mp hs with rfl | hs
              · exact hi
              · rw [List.mem_singleton.mp hs]; exact ⟨hi, by omega, by omega⟩
            · by_cases c : j = i
              · subst c; simp [wat, wn, mv, up]; omega
              · simp [wat, wn, mv, up, c]
            · rw [bodyOf_eq, ← hb2]
              have d1 : V.beg i < wat V V.beg ss i := by omega
              have d2 : V.film i < V.beg i := by omega
              simp [ixv hi, ixw hi, encV, op_sub_i, op_lt_i, op_gt_i, c1, c2, d1, d2, hL0, hL1, encS, tuple_l, ha]
          · have ha := ssD_add ts [.tip i] (by simp; omega)
            simp only [List.map_cons, List.map_nil, encS] at ha
            refine ⟨[.tip i], fun s hs => ?_, by simp, step _ fun j hj => ?_, V.beg i - V.film i, ?_⟩
            · rw [List.mem_singleton.mp hs]; exact hi
            · by_cases c : j = i
              · subst c; simp [wat, wn, up]; omega
              · simp [wat, wn, up, c]
            · rw [bodyOf_eq, ← hb2]
              have d1 : V.beg i < wat V V.beg ss i := by omega
              have d2 : ¬ V.film i < V.beg i := by omega
              simp [ixv hi, ixw hi, encV, op_sub_i, op_lt_i, op_gt_i, c1, c2, d1, d2, encS, tuple_l, ha]
        · by_cases c2 : 0 < V.beg i - wat V V.beg ss i
          · have ha := ssD_add ts [.fill i (V.beg i - wat V V.beg ss i)] (by simp; omega)
            simp only [List.map_cons, List.map_nil, encS] at ha
            refine ⟨[.fill i (V.beg i - wat V V.beg ss i)], fun s hs => ?_, by simp, step _ fun j hj => ?_, V.beg i - wat V V.beg ss i, ?_⟩
            · rw [List.mem_singleton.mp hs]; exact ⟨hi, by omega, by omega⟩
            · by_cases c : j = i
              · subst c
                simp only [wat, List.foldl_cons, List.foldl_nil, wn, mv, up, if_true]
                have : List.foldl (wn V) V.beg ts j = wat V V.beg ss j := hwi
                rw [this]
                have : List.foldl (wn V) V.beg ss j = wat V V.beg ss j := rfl
                omega
              · simp [wat, wn, mv, up, c]
            · rw [bodyOf_eq, ← hb2]
              have d1 : ¬ V.beg i < wat V V.beg ss i := by omega
              have d2 : wat V V.beg ss i < V.beg i := by omega
              simp [ixv hi, ixw hi, encV, op_sub_i, op_lt_i, op_gt_i, c1, c2, d1, d2, hL0, hL1, encS, tuple_l, ha]
          · have ha := ssD_add ts [] (by simp; omega)
            simp only [List.map_nil] at ha
            refine ⟨[], fun s hs => (List.not_mem_nil hs).elim, by simp, step _ fun j hj => ?_, V.beg i - wat V V.beg ss i, ?_⟩
            · by_cases c : j = i
              · subst c
                simp only [wat, List.foldl_nil, if_true]
                have : List.foldl (wn V) V.beg ts j = wat V V.beg ss j := hwi
                omega
              · simp [wat, c]
            · rw [bodyOf_eq, ← hb2]
              have d1 : ¬ V.beg i < wat V V.beg ss i := by omega
              have d2 : ¬ wat V V.beg ss i < V.beg i := by omega
              simp [ixv hi, ixw hi, encV, op_sub_i, op_lt_i, op_gt_i, c1, c2, d1, d2, tuple_l, ha]
      obtain ⟨us, hu1, hu2, hu3, z8, hu4⟩ := key
      exact ⟨[.p (.mref m), .p (vsD n V), .p (ssD ts), .p (wD n (wat V V.beg ss)), y4, y5, .p (.int i), y7, y8], rfl, _, g, .inl hu4, ts ++ us, fun s h => (List.mem_append.mp h).elim (hts s) (hu1 s), by simp; omega, by simp; omega, hu3, _, _, _, _, _, rfl, hs⟩) ⟨ss, hss, Nat.le_refl _, by omega, fun j hj => by simp, y4, y5, y6, y7, y8, rfl, hs'⟩
  refine ⟨ts, g2, ?_, ⟨h1, h3, hV, by omega, by omega, hts, fun i hi => by rw [hw i hi, if_pos hi]⟩, hs2⟩
  subst he he2
  rw [b_law_way, hb, hb2]
  simp only [ssD, List.map_nil] at *
  simp [hst, hl, hm2, op_sub_i, q1, op_add_i, er, f1, items_rng (show n ≤ 1000000 by omega), f2, wayD, ssD]
end Rz
/-! RzM8 -/
set_option linter.all false
set_option maxRecDepth 100000
namespace Rz
end Rz
/-! RzM9 -/
set_option linter.all false
set_option maxRecDepth 100000
namespace Rz
/-! ### equal data -/
structure Pl (k : Nat) (d : D) : Prop where
  shp : D.shp k d = true
  refl : D.eqv d d = true
theorem shp_int (k : Nat) (i : Int) : D.shp k (.int i) = true := by cases k <;> rfl
theorem shps_all : ∀ (k : Nat) (ds : List D), (∀ d ∈ ds, D.shp k d = true) → D.shps k ds = true
  | k, [], _ => by cases k <;> rfl
  | k, d :: ds, h => by
    have h1 := h d (List.mem_cons_self ..)
    have h2 := shps_all k ds fun e he => h e (List.mem_cons_of_mem _ he)
    cases k <;> (show (D.shp _ d && D.shps _ ds) = true; rw [h1, h2]; rfl)
theorem eqvs_refl : ∀ (ds : List D), (∀ d ∈ ds, D.eqv d d = true) → D.eqvs ds ds = true
  | [], _ => rfl
  | d :: ds, h => by
    show (D.eqv d d && D.eqvs ds ds) = true
    rw [h d (List.mem_cons_self ..), eqvs_refl ds fun e he => h e (List.mem_cons_of_mem _ he)]; rfl
theorem pl_int (k : Nat) (i : Int) : Pl k (.int i) := ⟨shp_int k i, by show (i == i) = true; simp⟩
theorem pl_tup {k : Nat} {ds : List D} (h : ∀ d ∈ ds, Pl k d) : Pl (k + 1) (.tup ds) := ⟨shps_all k ds fun d hd => (h d hd).shp, eqvs_refl ds fun d hd => (h d hd).refl⟩
theorem pl_tf {k n : Nat} {f : Nat → D} (h : ∀ i, i < n → Pl k (f i)) : Pl (k + 1) (tf n f) := pl_tup fun d hd => by
  obtain ⟨i, hi, rfl⟩ := List.mem_map.mp hd
  exact h i (List.mem_range.mp hi)
theorem pl_fr (k : Nat) (q : Rat) : Pl (k + 1) (fr q) := pl_tup fun d hd => by
  simp at hd
  rcases hd with rfl | rfl <;> exact pl_int _ _
theorem eq_self {d : D} (h : Pl 60 d) : op2 .eq d d = some (.bl true) := by
  show (if shp2 d d = true then some (D.bl (D.eqv d d)) else none) = _
  have : shp2 d d = true := by unfold shp2; rw [h.shp]; rfl
  rw [if_pos this, h.refl]
theorem pl_wD (k n : Nat) (w : Nat → Int) : Pl (k + 1) (wD n w) := pl_tf fun i _ => pl_int k _
/-! ### the checks of a way -/
theorem T_is_integer : TT i_is_integer = some d_is_integer := rfl
theorem T_is_from : TT i_is_from = some d_is_from := rfl
theorem T_is_vessel : TT i_is_vessel = some d_is_vessel := rfl
theorem T_is_step : TT i_is_step = some d_is_step := rfl
theorem T_all_waters : TT i_all_waters = some d_all_waters := rfl
theorem T_is_good : TT i_is_good = some d_is_good := rfl
theorem T_need_way : TT i_need_way = some d_need_way := rfl
theorem isint_i (i : Int) : bi .isint [.int i] = some (.bl true) := rfl
theorem isbool_i (i : Int) : bi .isbool [.int i] = some (.bl false) := rfl
theorem istup_t (ds : List D) : bi .istup [.tup ds] = some (.bl true) := rfl
theorem ev_is_integer (k : Nat) (i : Int) (g : Gs) : evF TT (k + 1) i_is_integer [.int i] g = .ok (.bl true) g := by
  rw [evF_s T_is_integer, runF_eq rfl]
  show outR (evSs (evF TT k) b_is_integer [.p (.int i)] g) = _
  simp [b_is_integer, isint_i, isbool_i]
theorem ev_is_from (k : Nat) (x lo hi : Int) (g : Gs) : evF TT (k + 2) i_is_from [.int x, .int lo, .int hi] g = .ok (.bl (decide (lo ≤ x) && decide (x ≤ hi))) g := by
  rw [evF_s T_is_from, runF_eq rfl]
  show outR (evSs (evF TT (k + 1)) b_is_from [.p (.int x), .p (.int lo), .p (.int hi)] g) = _
  by_cases h : lo ≤ x <;> simp [b_is_from, ev_is_integer k x g, op_le_i, h]
theorem is_from_t (k : Nat) {x lo hi : Int} (g : Gs) (h1 : lo ≤ x) (h2 : x ≤ hi) : evF TT (k + 2) i_is_from [.int x, .int lo, .int hi] g = .ok (.bl true) g := by
  rw [ev_is_from, decide_eq_true h1, decide_eq_true h2]; rfl
theorem ev_is_vessel (k : Nat) (V : Ves) (i : Nat) (g : Gs) (h : VOk V i) : evF TT (k + 3) i_is_vessel [encV V i] g = .ok (.bl true) g := by
  rw [evF_s T_is_vessel, runF_eq rfl]
  show outR (evSs (evF TT (k + 2)) b_is_vessel [.p (encV V i)] g) = _
  have f1 := is_from_t k g h.r1 h.r2
  have f2 := is_from_t k g h.f1 h.f2
  have f3 := is_from_t k g h.b1 h.b2
  have hne : op2 .ne (.int 3) (.int 3) = some (.bl false) := rfl
  simp [b_is_vessel, encV, istup_t, len_t, hne, f1, f2, f3, op_sub_i]
theorem isstr_s (s : List Nat) : bi .isstr [.str s] = some (.bl true) := rfl
theorem eq_cons_nil (d : D) (ds : List D) (h : D.shp 60 (.tup (d :: ds)) = true) : op2 .eq (.tup (d :: ds)) (.tup []) = some (.bl false) := by
  show (if shp2 (.tup (d :: ds)) (.tup []) = true then some (D.bl (D.eqv (.tup (d :: ds)) (.tup []))) else none) = _
  have : shp2 (.tup (d :: ds)) (.tup []) = true := by unfold shp2; rw [h]; rfl
  rw [if_pos this]; rfl
theorem pl_str (k : Nat) (s : List Nat) (h : s.all (fun c => Nat.blt c 55296) = true) : Pl k (.str s) := ⟨by cases k <;> exact h, by show (s == s) = true; simp⟩
theorem pl_encS (k : Nat) (s : Stp) : Pl (k + 1) (encS s) := by
  cases s <;> refine pl_tup fun d hd => ?_ <;> simp at hd
  · rcases hd with rfl | rfl | rfl
    · exact pl_str _ _ rfl
    · exact pl_int _ _
    · exact pl_int _ _
  · rcases hd with rfl | rfl | rfl | rfl
    · exact pl_str _ _ rfl
    · exact pl_int _ _
    · exact pl_int _ _
    · exact pl_int _ _
  · rcases hd with rfl | rfl
    · exact pl_str _ _ rfl
    · exact pl_int _ _
theorem ev_is_step (k n : Nat) (s : Stp) (g : Gs) (h : s.ok n) : evF TT (k + 3) i_is_step [.int (n : Int), encS s] g = .ok (.bl true) g := by
  rw [evF_s T_is_step, runF_eq rfl]
  show outR (evSs (evF TT (k + 2)) b_is_step [.p (.int (n : Int)), .p (encS s)] g) = _
  have hp := (pl_encS 59 s).shp
  cases s with
  | fill a z =>
    obtain ⟨ha, h1, h2⟩ := h
    have e := eq_cons_nil _ _ hp
    have f1 := is_from_t k g (x := (a : Int)) (lo := 0) (hi := (n : Int) - 1) (by omega) (by omega)
    have f2 := is_from_t k g h1 h2
    have hn : op2 .eq (.int 3) (.int 3) = some (.bl true) := rfl
    simp [b_is_step, encS, istup_t, e, isstr_s, len_t, op_sub_i, f1, f2, hn]
  | tip a =>
    have ha : a < n := h
    have e := eq_cons_nil _ _ hp
    have f1 := is_from_t k g (x := (a : Int)) (lo := 0) (hi := (n : Int) - 1) (by omega) (by omega)
    have hn : op2 .eq (.int 2) (.int 2) = some (.bl true) := rfl
    simp [b_is_step, encS, istup_t, e, isstr_s, len_t, op_sub_i, f1, hn]
  | pour a b z =>
    obtain ⟨ha, hb, hab, h1, h2⟩ := h
    have e := eq_cons_nil _ _ hp
    have f1 := is_from_t k g (x := (a : Int)) (lo := 0) (hi := (n : Int) - 1) (by omega) (by omega)
    have f2 := is_from_t k g (x := (b : Int)) (lo := 0) (hi := (n : Int) - 1) (by omega) (by omega)
    have f3 := is_from_t k g h1 h2
    have hn : op2 .ne (.int 4) (.int 4) = some (.bl false) := rfl
    have hn2 : op2 .ne (.int (a : Int)) (.int (b : Int)) = some (.bl true) := by rw [op_ne_i, decide_eq_false (by omega)]; rfl
    simp [b_is_step, encS, istup_t, e, isstr_s, len_t, op_sub_i, f1, f2, f3, hn, hn2]
/-! ### over lists -/
section
variable {C : Nat → List D → Gs → R D} {env : Env} {g : Gs}
theorem compD_l {e : Ex} {t : Tg} {α : Type} (l : List α) (enc y : α → D) (hn : l.length ≤ 1000000) (h : ∀ a ∈ l, ∃ e1, bindT t (enc a) (wipeS t.ix env) = some e1 ∧ evE C e e1 g = .ok (y a) g) :
    compD C e t [] env g (some (l.map enc)) = .ok (.lst (l.map y)) g := by
  unfold compD
  have hz : Nat.ble (l.map enc).length lineN = true := Nat.ble_eq_true_of_le (by simpa [lineN] using hn)
  simp only [hz, if_true]
  have L := compL_map (f := fun env g => evE C e env g) (c := fun env g => evC C [] env g) (t := t) (env := wipeS t.ix env) (g := g) y enc (fun _ _ => rfl) l h
  rw [L]
theorem forL_l {b : Env → Gs → SR} {t : Tg} {α : Type} {enc : α → D} (P : List α → Env → Gs → Prop) (l : List α) (h : ∀ pre a env g, a ∈ l → pre.length < l.length → P pre env g → ∃ e1, bindT t (enc a) env = some e1 ∧ ∃ env' g', (b e1 g = .nx env' g' ∨ b e1 g = .cnt env' g') ∧ P (pre ++ [a]) env' g') (h0 : P [] env g) :
    ∃ env' g', forL b t (l.map enc) env g = .nx env' g' ∧ P l env' g' := by
  have key : ∀ (m : List α) (pre : List α) (env : Env) (g : Gs), l = pre ++ m → P pre env g → ∃ env' g', forL b t (m.map enc) env g = .nx env' g' ∧ P l env' g' := by
    intro m
    induction m with
    | nil =>
      intro pre env g hl hp
      rw [List.append_nil] at hl
      subst hl
      exact ⟨env, g, rfl, hp⟩
    | cons a m ih =>
      intro pre env g hl hp
      obtain ⟨e1, h1, env', g', h2, h3⟩ := h pre a env g (by rw [hl]; simp) (by rw [hl]; simp) hp
      obtain ⟨env2, g2, h4, h5⟩ := ih (pre ++ [a]) env' g' (by rw [hl]; simp) h3
      refine ⟨env2, g2, ?_, h5⟩
      rw [List.map_cons]
      unfold forL
      rw [h1]
      rcases h2 with h2 | h2 <;> (simp only [h2]; exact h4)
  exact key l [] env g rfl h0
end
theorem all_true {α : Type} (l : List α) : bi .all [.lst (l.map fun _ => D.bl true)] = some (.bl true) := by
  have : ∀ l : List α, blsOf (l.map fun _ => D.bl true) = some (l.map fun _ => true) := fun l => by
    induction l with
    | nil => rfl
    | cons a l ih => show (blsOf (l.map fun _ => D.bl true)).map (true :: ·) = _; rw [ih]; rfl
  show (blsOf (l.map fun _ => D.bl true)).map (fun bs => D.bl (bs.all id)) = _
  rw [this]
  simp
theorem ix_last (g : Gs) (ds : List D) (d : D) : ixD g (.lst (ds ++ [d])) (.int (-1)) = some d := by
  show atI (ds ++ [d]) (-1) = _
  unfold atI ixN
  rw [if_neg (by omega), if_pos (by simp; omega)]
  have : (-1 + ((ds ++ [d]).length : Int)).toNat = ds.length := by simp; omega
  rw [this]
  simp
theorem slice_lo_l (ds : List D) (p : Nat) (h : p ≤ ds.length) : slD .lo (.lst ds) [.int (p : Int)] = some (.lst (ds.drop p)) := by
  show some (D.lst (cut ds (some (p : Int)) none)) = _
  unfold cut sIx
  simp only
  rw [if_neg (by omega)]
  have e : min (p : Int).toNat ds.length = p := by omega
  rw [e, List.take_of_length_le (by simp)]
theorem ev_all_waters (k n : Nat) (V : Ves) (ss : List Stp) (g : Gs) (hn : n ≤ 1000) (hl : ss.length ≤ 1000) (hs : ∀ s ∈ ss, s.ok n) :
    ∃ ds : List D, evF TT (k + 3) i_all_waters [wayD n V ss] g = .ok (.lst ((ds ++ [wD n (wat V V.beg ss)]).drop 1)) g ∧ ds.length = ss.length := by
  rw [evF_s T_all_waters, runF_eq rfl]
  show ∃ ds : List D, outR (evSs (evF TT (k + 2)) b_all_waters [.p (wayD n V ss), .u, .u, .u, .u] g) = _ ∧ _
  have hb := ev_begins (k + 1) n V g hn
  obtain ⟨env', g', f1, hg, ds, hd, y4, he⟩ := forL_l (t := .nm 4) (enc := encS) (b := bodyOf (evF TT (k + 2)) [.asg 3 (.op .add (.var 3) (.lst [.call i_waters_behind [.var 1, .ix (.var 3) (.neg (.lit (.int 1))), .var 4]]))])
    (env := [.p (wayD n V ss), .p (vsD n V), .p (ssD ss), .p (.lst [wD n V.beg]), .u]) (g := g)
    (fun pre e g' => g' = g ∧ ∃ ds : List D, ds.length = pre.length ∧ ∃ y4, e = [.p (wayD n V ss), .p (vsD n V), .p (ssD ss), .p (.lst (ds ++ [wD n (wat V V.beg pre)])), y4]) ss (fun pre s e g' hm hlt ⟨hg, ds, hd, y4, he⟩ => by
      subst he hg
      have w := ev_waters k n V (wat V V.beg pre) s g' (hs s hm) hn
      have ha : op2 .add (.lst (ds ++ [wD n (wat V V.beg pre)])) (.lst [wD n (wn V (wat V V.beg pre) s)]) = some (.lst ((ds ++ [wD n (wat V V.beg pre)]) ++ [wD n (wat V V.beg (pre ++ [s]))])) := by
        rw [wat_snoc]; exact op_add_l (by simp; omega)
      refine ⟨[.p (wayD n V ss), .p (vsD n V), .p (ssD ss), .p (.lst (ds ++ [wD n (wat V V.beg pre)])), .p (encS s)], rfl, [.p (wayD n V ss), .p (vsD n V), .p (ssD ss), .p (.lst ((ds ++ [wD n (wat V V.beg pre)]) ++ [wD n (wat V V.beg (pre ++ [s]))])), .p (encS s)], g', .inl ?_, rfl, ds ++ [wD n (wat V V.beg pre)], by simp [hd], _, rfl⟩
      simp only [bodyOf_eq, evSs_cons, evSs_nil, evS_asg, evE_op, evE_var, evE_lst, evEs_cons, evEs_nil, evE_call, evE_ix, evE_neg, evE_lit, getS_z, getS_s, slV_p, bind_ok, negD_int, ix_last, of_some, w, ha, to_ok, setS_z, setS_s, thenS_nx]) ⟨rfl, [], rfl, .u, rfl⟩
  subst he hg
  have hi : items .seq [ssD ss] = some (ss.map encS) := rfl
  have h1 := slice_lo_l (ds ++ [wD n (wat V V.beg ss)]) 1 (by simp)
  refine ⟨ds, ?_, hd⟩
  have hx : slD .lo (.lst (ds ++ [wD n (wat V V.beg ss)])) [.int 1] = some (.lst ((ds ++ [wD n (wat V V.beg ss)]).drop 1)) := h1
  simp only [wayD, b_all_waters, evSs_cons, evSs_nil, evS_unp, evS_asg, evE_var, evE_lst, evEs_cons, evEs_nil, evE_call, getS_z, getS_s, slV_p, to_ok, bind_t2, setS_z, setS_s, nxO_some, thenS_nx, bind_ok, hb, evS_for, fork_ok, hi, forD_some]
  simp only [wayD] at f1
  simp only [f1, thenS_nx, evSs_cons, evS_ret, evE_sl, evE_var, getS_z, getS_s, slV_p, bind_ok, evIs_cons, evIs_nil, evE_lit, toI_int, hx, of_some, to_ok, thenS_ret, outR_ret]
theorem ev_is_good (k n : Nat) (V : Ves) (ss : List Stp) (g : Gs) (h : WayOk n V ss) : evF TT (k + 4) i_is_good [wayD n V ss] g = .ok (.bl true) g := by
  rw [evF_s T_is_good, runF_eq rfl]
  show outR (evSs (evF TT (k + 3)) b_is_good [.p (wayD n V ss), .u, .u] g) = _
  have n3 := h.n3
  have n0 := h.n0
  have s0 := h.s0
  have s8 := h.s8
  obtain ⟨ds, hw, hd⟩ := ev_all_waters k n V ss g (by omega) (by omega) h.sok
  have hb := ev_begins (k + 2) n V g (by omega)
  have c1 : compD (evF TT (k + 3)) (.call i_is_vessel [.var 1]) (.nm 1) [] [.p (wayD n V ss), .u, .u] g (some ((List.range n).map (encV V))) = .ok (.lst ((List.range n).map fun _ => .bl true)) g :=
    compD_l (List.range n) (encV V) (fun _ => .bl true) (by simp; omega) fun i hi => ⟨[.p (wayD n V ss), .p (encV V i), .u], rfl, by simp [ev_is_vessel k V i g (h.vok i (List.mem_range.mp hi))]⟩
  have hln : bi .len [vsD n V] = some (.int (n : Int)) := len_tf _ _
  have hls : bi .len [ssD ss] = some (.int (ss.length : Int)) := by unfold ssD; rw [len_t]; simp
  have c2 : compD (evF TT (k + 3)) (.call i_is_step [.bi .len [.ix (.var 0) (.lit (.int 0))], .var 2]) (.nm 2) [] [.p (wayD n V ss), .u, .u] g (some (ss.map encS)) = .ok (.lst (ss.map fun _ => .bl true)) g :=
    compD_l ss encS (fun _ => .bl true) (by omega) fun s hs => ⟨[.p (wayD n V ss), .u, .p (encS s)], rfl, by
      have := ev_is_step k n s g (h.sok s hs)
      simp [wayD, hln, this]⟩
  have e1 : bi .len [wayD n V ss] = some (.int 2) := rfl
  have e2 : bi .istup [wayD n V ss] = some (.bl true) := rfl
  have e3 : bi .istup [vsD n V] = some (.bl true) := rfl
  have e4 : bi .istup [ssD ss] = some (.bl true) := rfl
  have x0 : ∀ g, ixD g (wayD n V ss) (.int 0) = some (vsD n V) := fun g => ix_t0 g _ _
  have x1 : ∀ g, ixD g (wayD n V ss) (.int 1) = some (ssD ss) := fun g => ix_t1 g _ _ _
  have ne2 : op2 .ne (.int 2) (.int 2) = some (.bl false) := rfl
  have a1 := all_true (List.range n)
  have a2 := all_true ss
  have i1 : items .seq [vsD n V] = some ((List.range n).map (encV V)) := items_seq (sq_tf _ _)
  have i2 : items .seq [ssD ss] = some (ss.map encS) := rfl
  have l1 : op2 .le (.int 1) (.int (n : Int)) = some (.bl true) := by rw [op_le_i, decide_eq_true (by omega)]
  have l2 : op2 .le (.int (n : Int)) (.int 3) = some (.bl true) := by rw [op_le_i, decide_eq_true (by omega)]
  have l3 : op2 .le (.int 1) (.int (ss.length : Int)) = some (.bl true) := by rw [op_le_i, decide_eq_true (by omega)]
  have l4 : op2 .le (.int (ss.length : Int)) (.int 8) = some (.bl true) := by rw [op_le_i, decide_eq_true (by omega)]
  have hx : ixD g (.lst ((ds ++ [wD n (wat V V.beg ss)]).drop 1)) (.int (-1)) = some (wD n V.beg) := by
    cases ds with
    | nil => simp at hd; omega
    | cons d ds =>
      show ixD g (.lst (ds ++ [_])) _ = _
      rw [ix_last, wD_congr h.back]
  have eq := eq_self (pl_wD 59 n V.beg)
  simp only [b_is_good, evSs_cons, evSs_nil, evS_ite, evE_or, evE_not, evE_bi, evEs_cons, evEs_nil, evE_var, getS_z, getS_s, slV_p, bind_ok, e2, of_some, notD_bl, Bool.not_true, iteD_bl, Bool.false_eq_true, if_false, evE_op, e1, evE_lit, ne2, evE_ix, x0, e3, to_ok, thenS_nx, evE_chain, hln, l1, l2, chD_bl, if_true, evE_comp, i1, c1, a1, x1, e4, hls, l3, l4, i2, c2, a2, evS_ret, evE_call, hw, evE_neg, negD_int, hx, hb, eq, thenS_ret, outR_ret]
theorem ev_need_way (k n : Nat) (V : Ves) (ss : List Stp) (g : Gs) (h : WayOk n V ss) : evF TT (k + 5) i_need_way [wayD n V ss] g = .ok .non g := by
  rw [evF_s T_need_way, runF_eq rfl]
  show outR (evSs (evF TT (k + 4)) b_need_way [.p (wayD n V ss)] g) = _
  simp [b_need_way, ev_is_good k n V ss g h]
end Rz
/-! RzM10 -/
set_option linter.all false
set_option maxRecDepth 100000
set_option exponentiation.threshold 20000
namespace Rz
/-! ### plain facts of Rat -/
theorem div_mul_c {m w : Rat} (h : 0 < w) : m / w * w = m := by grind
theorem div_nn {m w : Rat} (h : 0 < w) (hm : 0 ≤ m) : 0 ≤ m / w :=
  Rat.le_of_mul_le_mul_right (by rw [div_mul_c h]; grind) h
theorem mul_le_self {x f : Rat} (hx : 0 ≤ x) (hf : f ≤ 1) : x * f ≤ x := by
  have := Rat.mul_le_mul_of_nonneg_left hf hx
  grind
/-- D times q is an integer -/
def Iz (D : Nat) (q : Rat) : Prop := ∃ z : Int, q * (D : Rat) = (z : Rat)
theorem Iz.int (D : Nat) (i : Int) : Iz D (i : Rat) := ⟨i * D, by push_cast; rfl⟩
theorem Iz.zero (D : Nat) : Iz D 0 := ⟨0, by grind⟩
theorem Iz.add {D : Nat} {a b : Rat} (ha : Iz D a) (hb : Iz D b) : Iz D (a + b) := by
  obtain ⟨x, hx⟩ := ha
  obtain ⟨y, hy⟩ := hb
  exact ⟨x + y, by push_cast; grind⟩
theorem Iz.sub {D : Nat} {a b : Rat} (ha : Iz D a) (hb : Iz D b) : Iz D (a - b) := by
  obtain ⟨x, hx⟩ := ha
  obtain ⟨y, hy⟩ := hb
  exact ⟨x - y, by push_cast; grind⟩
theorem Iz.mul {D E : Nat} {a b : Rat} (ha : Iz D a) (hb : Iz E b) : Iz (D * E) (a * b) := by
  obtain ⟨x, hx⟩ := ha
  obtain ⟨y, hy⟩ := hb
  exact ⟨x * y, by push_cast; grind⟩
theorem num_eq (q : Rat) : (q.num : Rat) = q * (q.den : Rat) := by
  have h1 := Rat.num_divInt_den q
  rw [Rat.divInt_eq_div] at h1
  have h2 : ((q.den : Int) : Rat) ≠ 0 := by
    have := q.den_nz
    exact_mod_cast this
  have h3 : ((q.den : Int) : Rat) = (q.den : Rat) := by push_cast; rfl
  rw [← h3]
  grind
theorem Iz.den {D : Nat} {q : Rat} (h : Iz D q) : q.den ∣ D := by
  obtain ⟨z, hz⟩ := h
  have e : (q.num * (D : Int) : Int) = z * (q.den : Int) := by
    have h1 := num_eq q
    have : ((q.num * (D : Int) : Int) : Rat) = ((z * (q.den : Int) : Int) : Rat) := by
      push_cast; rw [h1, ← hz]; grind
    exact Rat.intCast_inj.mp this
  have d1 : (q.den : Int) ∣ q.num * (D : Int) := ⟨z, by rw [e, Int.mul_comm]⟩
  have d2 : q.den ∣ q.num.natAbs * D := by
    have := Int.natAbs_dvd_natAbs.mpr d1
    rw [Int.natAbs_mul] at this
    simpa using this
  exact (Nat.Coprime.symm q.reduced).dvd_of_dvd_mul_left d2
/-- a number from 0 to M, D times it an integer -/
structure Rd (D M : Nat) (q : Rat) : Prop where
  iz : Iz D q
  lo : 0 ≤ q
  hi : q ≤ (M : Rat)
theorem Rd.num_le {D M : Nat} {q : Rat} (h : Rd D M q) : q.num.natAbs ≤ M * q.den := by
  have h1 := num_eq q
  have h2 : (0 : Rat) ≤ (q.den : Rat) := by exact_mod_cast Nat.zero_le q.den
  have h3 := Rat.mul_le_mul_of_nonneg_right h.hi h2
  have h4 : ((q.num : Int) : Rat) ≤ (((M * q.den : Nat) : Int) : Rat) := by
    rw [h1]; push_cast; exact h3
  have h5 : q.num ≤ ((M * q.den : Nat) : Int) := Rat.intCast_le_intCast.mp h4
  have h6 : 0 ≤ q.num := Rat.num_nonneg.mpr h.lo
  omega
theorem Rd.sm {D M : Nat} {q : Rat} (h : Rd D M q) (hD : 0 < D) (hM : 0 < M) (hb : M * D < BB) : Sm q := by
  have d := Nat.le_of_dvd hD h.iz.den
  have n := h.num_le
  have e : M * q.den ≤ M * D := Nat.mul_le_mul_left M d
  have e2 : D ≤ M * D := Nat.le_mul_of_pos_left D hM
  exact ⟨by omega, by omega⟩
/-! ### sums -/
theorem sumN_congr {n : Nat} {x y : Nat → Rat} (h : ∀ i, i < n → x i = y i) : sumN n x = sumN n y := by
  induction n with
  | zero => rfl
  | succ n ih => rw [sumN, sumN, ih fun i hi => h i (by omega), h n (by omega)]
theorem sumN_up {n : Nat} (x : Nat → Rat) (a : Nat) (v : Rat) : sumN n (up x a v) = if a < n then sumN n x - x a + v else sumN n x := by
  induction n with
  | zero => simp [sumN]
  | succ n ih =>
    rw [sumN, sumN, ih]
    by_cases h : a < n
    · rw [if_pos h, if_pos (by omega)]
      have : up x a v n = x n := by simp only [up]; rw [if_neg (by omega)]
      rw [this]; grind
    · by_cases h2 : a = n
      · subst h2
        rw [if_neg h, if_pos (by omega)]
        have : up x a v a = v := by simp [up]
        rw [this]; grind
      · rw [if_neg h, if_neg (by omega)]
        have : up x a v n = x n := by simp only [up]; rw [if_neg (by omega)]
        rw [this]
theorem sumN_nn {n : Nat} {x : Nat → Rat} (h : ∀ i, i < n → 0 ≤ x i) : 0 ≤ sumN n x := by
  induction n with
  | zero => exact Rat.le_refl
  | succ n ih =>
    have h1 := ih fun i hi => h i (by omega)
    have h2 := h n (by omega)
    rw [sumN]; grind
theorem sumN_mono {n m : Nat} {x : Nat → Rat} (h : ∀ i, i < n → 0 ≤ x i) (hm : m ≤ n) : sumN m x ≤ sumN n x := by
  induction n with
  | zero => have : m = 0 := by omega
            subst this; exact Rat.le_refl
  | succ n ih =>
    by_cases c : m = n + 1
    · subst c; exact Rat.le_refl
    · have h1 := ih (fun i hi => h i (by omega)) (by omega)
      have h2 := h n (by omega)
      rw [sumN]; grind
theorem sumN_le {n : Nat} {x : Nat → Rat} (h : ∀ i, i < n → 0 ≤ x i) {a : Nat} (ha : a < n) : x a ≤ sumN n x := by
  have h1 := sumN_mono h (show a + 1 ≤ n by omega)
  have h2 := sumN_nn (n := a) fun i hi => h i (by omega)
  rw [sumN] at h1; grind
theorem sumN_iz {D n : Nat} {x : Nat → Rat} (h : ∀ i, i < n → Iz D (x i)) : Iz D (sumN n x) := by
  induction n with
  | zero => exact .zero D
  | succ n ih => exact (ih fun i hi => h i (by omega)).add (h n (by omega))

/-! ### dirt -/
/-- the part of a vessel's dirt that a step moves -/
def pt (V : Ves) (w : Nat → Int) (s : Stp) : Rat := match s with
  | .fill _ _ => 0
  | .pour a b z => (mv V w (.pour a b z) : Rat) / (w a : Rat)
  | .tip a => (mv V w (.tip a) : Rat) / (w a : Rat)
def dx (V : Ves) (w : Nat → Int) (x : Nat → Rat) (s : Stp) : Nat → Rat := match s with
  | .fill _ _ => x
  | .pour a b z => up (up x a (x a - x a * pt V w (.pour a b z))) b (x b + x a * pt V w (.pour a b z))
  | .tip a => up x a (x a - x a * pt V w (.tip a))
/-- dirt that may be reckoned with: n numbers from 0 on, M in all, D times each an integer -/
structure Dr (D M n : Nat) (x : Nat → Rat) : Prop where
  iz : ∀ i, i < n → Iz D (x i)
  lo : ∀ i, i < n → 0 ≤ x i
  sum : sumN n x ≤ (M : Rat)
theorem Dr.rd {D M n : Nat} {x : Nat → Rat} (h : Dr D M n x) {i : Nat} (hi : i < n) : Rd D M (x i) := ⟨h.iz i hi, h.lo i hi, by
  have h1 := sumN_le h.lo hi
  have h2 := h.sum
  grind⟩
end Rz
/-! RzM11 -/
set_option linter.all false
set_option maxRecDepth 100000
set_option exponentiation.threshold 20000
namespace Rz
section
variable {D M n : Nat} {V : Ves} {w : Nat → Int} {x : Nat → Rat} {s : Stp}
end
/-! ### steps on -/
def dxs (V : Ves) (w : Nat → Int) (x : Nat → Rat) : List Stp → Nat → Rat
  | [] => x
  | s :: ss => dxs V (wn V w s) (dx V w x s) ss
end Rz
/-! RzM12 -/
set_option linter.all false
set_option maxRecDepth 100000
set_option exponentiation.threshold 20000
namespace Rz
theorem sumN_id (n i : Nat) : sumN n (idN i) = if i < n then 1 else 0 := by
  induction n with
  | zero => simp [sumN]
  | succ n ih =>
    rw [sumN, ih]
    by_cases h : i < n
    · rw [if_pos h, if_pos (by omega)]
      have : idN i n = 0 := by simp only [idN]; rw [if_neg (by omega)]
      rw [this]; grind
    · by_cases h2 : i = n
      · subst h2
        rw [if_neg h, if_pos (by omega)]
        have : idN i i = 1 := by simp [idN]
        rw [this]; grind
      · rw [if_neg h, if_neg (by omega)]
        have : idN i n = 0 := by simp only [idN]; rw [if_neg h2]
        rw [this]; grind
theorem id_dr (n i : Nat) : Dr 1 1 n (idN i) := by
  refine ⟨fun j hj => ?_, fun j hj => ?_, ?_⟩
  · unfold idN
    by_cases h : i = j
    · rw [if_pos h]; exact Iz.int 1 1
    · rw [if_neg h]; exact .zero 1
  · unfold idN
    by_cases h : i = j
    · rw [if_pos h]; decide
    · rw [if_neg h]; decide
  · rw [sumN_id]
    by_cases h : i < n
    · rw [if_pos h]; decide
    · rw [if_neg h]; decide
def Tb (V : Ves) (ss : List Stp) : Nat → Nat → Rat := fun i => dxs V V.beg (idN i) ss
end Rz
/-! RzM13 -/
set_option linter.all false
set_option maxRecDepth 100000
set_option exponentiation.threshold 20000
namespace Rz
/-! ### tables multiplied -/
def mulN (n : Nat) (A B : Nat → Nat → Rat) : Nat → Nat → Rat := fun i j => sumN n fun k => A i k * B k j
def powN (n : Nat) (A : Nat → Nat → Rat) : Nat → Nat → Nat → Rat
  | 0 => idN
  | t + 1 => mulN n (powN n A t) A
theorem sumN_add (n : Nat) (x y : Nat → Rat) : sumN n (fun i => x i + y i) = sumN n x + sumN n y := by
  induction n with
  | zero => simp only [sumN]; grind
  | succ n ih => simp only [sumN, ih]; grind
theorem sumN_mulr (n : Nat) (x : Nat → Rat) (c : Rat) : sumN n (fun i => x i * c) = sumN n x * c := by
  induction n with
  | zero => simp only [sumN]; grind
  | succ n ih => simp only [sumN, ih]; grind
theorem sumN_mull (n : Nat) (x : Nat → Rat) (c : Rat) : sumN n (fun i => c * x i) = c * sumN n x := by
  induction n with
  | zero => simp only [sumN]; grind
  | succ n ih => simp only [sumN, ih]; grind
theorem sumN_zero (n : Nat) : sumN n (fun _ => 0) = 0 := by
  induction n with
  | zero => rfl
  | succ n ih => simp only [sumN, ih]; grind
theorem sumN_swap (n m : Nat) (f : Nat → Nat → Rat) : sumN n (fun i => sumN m fun j => f i j) = sumN m fun j => sumN n fun i => f i j := by
  induction n with
  | zero => simp only [sumN]; rw [sumN_zero]
  | succ n ih =>
    simp only [sumN, ih]
    rw [← sumN_add]
/-- tables that agree below n -/
def EqN (n : Nat) (A B : Nat → Nat → Rat) : Prop := ∀ i j, i < n → j < n → A i j = B i j
theorem mulN_assoc (n : Nat) (A B C : Nat → Nat → Rat) : mulN n (mulN n A B) C = mulN n A (mulN n B C) := by
  funext i j
  simp only [mulN]
  have e1 : (fun k => (sumN n fun l => A i l * B l k) * C k j) = fun k => sumN n fun l => A i l * B l k * C k j := by
    funext k; rw [← sumN_mulr]
  have e2 : (fun l => A i l * sumN n fun k => B l k * C k j) = fun l => sumN n fun k => A i l * B l k * C k j := by
    funext l
    rw [← sumN_mull]
    exact sumN_congr fun k _ => by grind
  rw [e1, e2, sumN_swap]
theorem sum_id_r (n : Nat) (x : Nat → Rat) (j : Nat) (hj : j < n) : sumN n (fun k => x k * idN k j) = x j := by
  induction n with
  | zero => omega
  | succ n ih =>
    simp only [sumN]
    by_cases h : j < n
    · rw [ih h]
      have : idN n j = 0 := by simp only [idN]; rw [if_neg (by omega)]
      rw [this]; grind
    · have e : j = n := by omega
      subst e
      have z : sumN j (fun k => x k * idN k j) = 0 := by
        rw [← sumN_zero j]
        exact sumN_congr fun k hk => by
          have : idN k j = 0 := by simp only [idN]; rw [if_neg (by omega)]
          rw [this]; grind
      have : idN j j = 1 := by simp [idN]
      rw [z, this]; grind
theorem mulN_congr {n : Nat} {A A' B B' : Nat → Nat → Rat} (h1 : EqN n A A') (h2 : EqN n B B') : EqN n (mulN n A B) (mulN n A' B') := fun i j hi hj =>
  sumN_congr fun k hk => by rw [h1 i k hi hk, h2 k j hk hj]
theorem mulN_id_r (n : Nat) (A : Nat → Nat → Rat) : EqN n (mulN n A idN) A := fun i j hi hj => sum_id_r n (A i) j hj
theorem EqN.trans {n : Nat} {A B C : Nat → Nat → Rat} (h1 : EqN n A B) (h2 : EqN n B C) : EqN n A C := fun i j hi hj => (h1 i j hi hj).trans (h2 i j hi hj)
theorem EqN.symm {n : Nat} {A B : Nat → Nat → Rat} (h1 : EqN n A B) : EqN n B A := fun i j hi hj => (h1 i j hi hj).symm
theorem EqN.refl (n : Nat) (A : Nat → Nat → Rat) : EqN n A A := fun _ _ _ _ => rfl
theorem powN_add (n : Nat) (A : Nat → Nat → Rat) (s : Nat) : ∀ t, EqN n (powN n A (s + t)) (mulN n (powN n A s) (powN n A t))
  | 0 => (mulN_id_r n _).symm
  | t + 1 => by
    show EqN n (mulN n (powN n A (s + t)) A) (mulN n (powN n A s) (mulN n (powN n A t) A))
    rw [← mulN_assoc]
    exact mulN_congr (powN_add n A s t) (.refl n A)
end Rz
/-! RzM14 -/
set_option linter.all false
set_option maxRecDepth 100000
set_option exponentiation.threshold 20000
namespace Rz
end Rz
/-! RzM15 -/
set_option linter.all false
set_option maxRecDepth 100000
set_option exponentiation.threshold 20000
namespace Rz
/-- Z is A times L -/
structure Who (n : Nat) (A : Nat → Nat → Rat) (Z : Nat → Nat → Int) (L : Nat) : Prop where
  L0 : 0 < L
  eq : ∀ i j, i < n → j < n → ((Z i j : Int) : Rat) = A i j * (L : Rat)
end Rz
/-! RzM16 -/
set_option linter.all false
set_option maxRecDepth 100000
set_option exponentiation.threshold 20000
namespace Rz
/-! ### whole tables multiplied -/
def isum : Nat → (Nat → Int) → Int
  | 0, _ => 0
  | n + 1, x => isum n x + x n
theorem isum_abs {n : Nat} {x : Nat → Int} {b : Nat} (h : ∀ i, i < n → (x i).natAbs ≤ b) : (isum n x).natAbs ≤ n * b := by
  induction n with
  | zero => simp [isum]
  | succ n ih =>
    have h1 := ih fun i hi => h i (by omega)
    have h2 := h n (by omega)
    simp only [isum]
    have := Int.natAbs_add_le (isum n x) (x n)
    rw [Nat.succ_mul]; omega
theorem isum_cast (n : Nat) (x : Nat → Int) : ((isum n x : Int) : Rat) = sumN n fun i => ((x i : Int) : Rat) := by
  induction n with
  | zero => rfl
  | succ n ih => simp only [isum, sumN, ← ih]; push_cast; rfl
def zmul (n : Nat) (Y Z : Nat → Nat → Int) : Nat → Nat → Int := fun i j => isum n fun k => Y i k * Z k j
/-- all entries at most b -/
def Zb (n b : Nat) (Z : Nat → Nat → Int) : Prop := ∀ i j, i < n → j < n → (Z i j).natAbs ≤ b
theorem zmul_b {n b c : Nat} {Y Z : Nat → Nat → Int} (hy : Zb n b Y) (hz : Zb n c Z) : Zb n (n * (b * c)) (zmul n Y Z) := fun i j hi hj =>
  isum_abs fun k hk => by
    rw [Int.natAbs_mul]
    exact Nat.mul_le_mul (hy i k hi hk) (hz k j hk hj)
theorem zmul_who {n L M : Nat} {A B : Nat → Nat → Rat} {Y Z : Nat → Nat → Int} (h1 : Who n A Y L) (h2 : Who n B Z M) : Who n (mulN n A B) (zmul n Y Z) (L * M) := ⟨Nat.mul_pos h1.L0 h2.L0, fun i j hi hj => by
  simp only [zmul, mulN]
  rw [isum_cast, ← sumN_mulr]
  exact sumN_congr fun k hk => by
    have a := h1.eq i k hi hk
    have b := h2.eq k j hk hj
    push_cast
    rw [a, b]; grind⟩
end Rz
/-! RzM17 -/
set_option linter.all false
set_option maxRecDepth 100000
set_option exponentiation.threshold 20000
namespace Rz
theorem Who.congr {n L : Nat} {A B : Nat → Nat → Rat} {Z : Nat → Nat → Int} (h : Who n A Z L) (e : EqN n A B) : Who n B Z L := ⟨h.L0, fun i j hi hj => by rw [← e i j hi hj]; exact h.eq i j hi hj⟩
/-- a whole table of the q-th power, with its size -/
structure Pw (n : Nat) (A : Nat → Nat → Rat) (q : Nat) (b : Nat) (Z : Nat → Nat → Int) (L : Nat) : Prop where
  who : Who n (powN n A q) Z L
  zb : Zb n b Z
  bq : b ≤ 2 ^ (32 * q)
  lq : L ≤ 2 ^ (30 * q)
theorem Pw.mul {n : Nat} {A : Nat → Nat → Rat} {p q b c L M : Nat} {Y Z : Nat → Nat → Int} (hn : n ≤ 4) (h1 : Pw n A p b Y L) (h2 : Pw n A q c Z M) (hc : 4 * c ≤ 2 ^ (32 * q)) : Pw n A (p + q) (n * (b * c)) (zmul n Y Z) (L * M) := by
  refine ⟨(zmul_who h1.who h2.who).congr (powN_add n A p q).symm, zmul_b h1.zb h2.zb, ?_, ?_⟩
  · calc n * (b * c) ≤ 4 * (b * c) := Nat.mul_le_mul_right _ hn
      _ = b * (4 * c) := by rw [Nat.mul_left_comm]
      _ ≤ 2 ^ (32 * p) * 2 ^ (32 * q) := Nat.mul_le_mul h1.bq hc
      _ = 2 ^ (32 * (p + q)) := by rw [← Nat.pow_add, Nat.mul_add]
  · calc L * M ≤ 2 ^ (30 * p) * 2 ^ (30 * q) := Nat.mul_le_mul h1.lq h2.lq
      _ = 2 ^ (30 * (p + q)) := by rw [← Nat.pow_add, Nat.mul_add]
theorem Pw.lt {n : Nat} {A : Nat → Nat → Rat} {q b L : Nat} {Z : Nat → Nat → Int} (h : Pw n A q b Z L) (hq : q ≤ 200) : b < BB ∧ L < BB := by
  have h1 : (2 : Nat) ^ (32 * q) ≤ 2 ^ 6400 := Nat.pow_le_pow_right (by decide) (by omega)
  have h2 : (2 : Nat) ^ (30 * q) ≤ 2 ^ 6400 := Nat.pow_le_pow_right (by decide) (by omega)
  have h3 : (2 : Nat) ^ 6400 < BB := by rw [BB_eq]; exact Nat.pow_lt_pow_right (by decide) (by decide)
  exact ⟨Nat.lt_of_le_of_lt (Nat.le_trans h.bq h1) h3, Nat.lt_of_le_of_lt (Nat.le_trans h.lq h2) h3⟩
end Rz
/-! RzM18 -/
set_option linter.all false
set_option maxRecDepth 100000
set_option exponentiation.threshold 20000
namespace Rz
theorem Who.zb {n L : Nat} {A : Nat → Nat → Rat} {Z : Nat → Nat → Int} (h : Who n A Z L) (lo : ∀ i j, i < n → j < n → 0 ≤ A i j ∧ A i j ≤ 1) : Zb n L Z := fun i j hi hj => by
  have e := h.eq i j hi hj
  have ⟨l0, l1⟩ := lo i j hi hj
  have p : (0 : Rat) ≤ (L : Rat) := by exact_mod_cast Nat.zero_le L
  have a : (0 : Rat) ≤ ((Z i j : Int) : Rat) := by rw [e]; exact Rat.mul_nonneg l0 p
  have b : ((Z i j : Int) : Rat) ≤ ((L : Int) : Rat) := by
    rw [e]
    have := Rat.mul_le_mul_of_nonneg_right l1 p
    push_cast; grind
  have a' : 0 ≤ Z i j := by exact_mod_cast a
  have b' : Z i j ≤ (L : Int) := Rat.intCast_le_intCast.mp b
  omega
end Rz
/-! RzM19 -/
set_option linter.all false
set_option maxRecDepth 100000
set_option exponentiation.threshold 20000
namespace Rz
end Rz
/-! RzM20 -/
set_option linter.all false
set_option maxRecDepth 100000
set_option exponentiation.threshold 20000
namespace Rz
end Rz
/-! RzM21 -/
set_option linter.all false
set_option maxRecDepth 100000
set_option exponentiation.threshold 20000
namespace Rz
@[simp] theorem frz_one (i : Nat) (env : Env) : frz [i] env = frzS env i := nr rfl
end Rz
/-! RzM22 -/
set_option linter.all false
set_option maxRecDepth 100000
set_option exponentiation.threshold 20000
namespace Rz
end Rz
/-! RzM23 -/
set_option linter.all false
set_option maxRecDepth 100000
set_option exponentiation.threshold 20000
namespace Rz
theorem sumN_le_sumN {n : Nat} {x y : Nat → Rat} (h : ∀ i, i < n → x i ≤ y i) : sumN n x ≤ sumN n y := by
  induction n with
  | zero => exact Rat.le_refl
  | succ n ih =>
    have h1 := ih fun i hi => h i (by omega)
    have h2 := h n (by omega)
    simp only [sumN]; grind
theorem Dr.le1 {W n : Nat} {x : Nat → Rat} (h : Dr W 1 n x) {j : Nat} (hj : j < n) : x j ≤ 1 := by
  have := (h.rd hj).hi
  simpa using this
theorem col_dr {D M W n : Nat} {x : Nat → Rat} {A : Nat → Nat → Rat} (h : Dr D M n x) (hA : ∀ i, i < n → Dr W 1 n (A i)) {j : Nat} (hj : j < n) : Dr (D * W) M n fun i => x i * A i j :=
  ⟨fun i hi => (h.iz i hi).mul ((hA i hi).iz j hj), fun i hi => Rat.mul_nonneg (h.lo i hi) ((hA i hi).lo j hj), by
    have := sumN_le_sumN (n := n) (x := fun i => x i * A i j) (y := x) fun i hi => mul_le_self (h.lo i hi) ((hA i hi).le1 hj)
    have := h.sum
    grind⟩
theorem led_dr {D M W n : Nat} {x : Nat → Rat} {A : Nat → Nat → Rat} (h : Dr D M n x) (hA : ∀ i, i < n → Dr W 1 n (A i)) : Dr (D * W) M n fun j => sumN n fun i => x i * A i j :=
  ⟨fun j hj => sumN_iz fun i hi => (col_dr h hA hj).iz i hi, fun j hj => sumN_nn fun i hi => (col_dr h hA hj).lo i hi, by
    have e : (sumN n fun j => sumN n fun i => x i * A i j) = sumN n fun i => x i * sumN n (A i) := by
      rw [sumN_swap]
      exact sumN_congr fun i _ => by rw [sumN_mull]
    rw [e]
    have := sumN_le_sumN (n := n) (x := fun i => x i * sumN n (A i)) (y := x) fun i hi => mul_le_self (h.lo i hi) (by have := (hA i hi).sum; simpa using this)
    have := h.sum
    grind⟩
theorem powN_dr {W n : Nat} {A : Nat → Nat → Rat} (hA : ∀ i, i < n → Dr W 1 n (A i)) : ∀ t i, i < n → Dr (W ^ t) 1 n (powN n A t i)
  | 0, i, hi => by rw [Nat.pow_zero]; exact id_dr n i
  | t + 1, i, hi => by rw [Nat.pow_succ]; exact led_dr (powN_dr hA t i hi) hA
/-- shares: W a common denominator -/
structure Sh (n W : Nat) (A : Nat → Nat → Rat) : Prop where
  W0 : 0 < W
  dr : ∀ i, i < n → Dr W 1 n (A i)
theorem Sh.lo {n W : Nat} {A : Nat → Nat → Rat} (h : Sh n W A) : ∀ i j, i < n → j < n → 0 ≤ A i j ∧ A i j ≤ 1 := fun i j hi hj => ⟨(h.dr i hi).lo j hj, (h.dr i hi).le1 hj⟩
theorem Sh.pow {n W : Nat} {A : Nat → Nat → Rat} (h : Sh n W A) (t : Nat) : Sh n (W ^ t) (powN n A t) := ⟨Nat.pow_pos h.W0, powN_dr h.dr t⟩
theorem T_is_any_fraction : TT i_is_any_fraction = some d_is_any_fraction := rfl
/-- an amount of dirt -/
structure Amt (q : Rat) : Prop where
  lo : 0 ≤ q
  num : q.num ≤ 100000000000000000000000000000000000000
  den : q.den ≤ 100000000000000000000000000000000000000
theorem Amt.sm {q : Rat} (h : Amt q) : Sm q := by
  have b : 100000000000000000000000000000000000000 < BB := Nat.lt_trans (show 100000000000000000000000000000000000000 < 2 ^ 200 by decide) (by rw [BB_eq]; exact Nat.pow_lt_pow_right (by decide) (by decide))
  have h0 : 0 ≤ q.num := Rat.num_nonneg.mpr h.lo
  have h1 := h.num
  have h2 := h.den
  constructor
  · omega
  · omega
/-- dirt of a law -/
structure Dt (n : Nat) (x : Nat → Rat) : Prop where
  amt : ∀ i, i < n → Amt (x i)
  dr : Dr 18 (3 * 10 ^ 20) n x
end Rz
/-! RzM24 -/
set_option linter.all false
set_option maxRecDepth 100000
set_option exponentiation.threshold 20000
namespace Rz
theorem T_law_dirt : TT i_law_dirt = some d_law_dirt := rfl
theorem row_snoc (i : Nat) (x : Nat → Rat) (q : Rat) (hi : i ≤ 1000) : op2 .add (row i x) (.tup [fr q]) = some (row (i + 1) (up x i q)) := by
  unfold row tf
  rw [op_add_t (by simp; omega), List.range_succ, List.map_append]
  congr 3
  · apply List.map_congr_left
    intro j hj
    have : j ≠ i := by have := List.mem_range.mp hj; omega
    simp [up, this]
  · simp [up]
/-- an amount that a law draws -/
structure Dq (q : Rat) : Prop where
  iz : Iz 18 q
  lo : 0 ≤ q
  hi : q ≤ ((10 ^ 20 : Nat) : Rat)
theorem dq_of (t b : Nat) (ht : t ≤ 10 ^ 20) (hb : b = 1 ∨ b = 2 ∨ b = 9) : Dq (Rat.divInt (t : Int) (b : Int)) := by
  have hb0 : (0 : Rat) < (b : Rat) := by
    have : 0 < b := by omega
    exact_mod_cast this
  have e : Rat.divInt (t : Int) (b : Int) = (t : Rat) / (b : Rat) := by rw [Rat.divInt_eq_div]; push_cast; rfl
  have t0 : (0 : Rat) ≤ (t : Rat) := by exact_mod_cast Nat.zero_le t
  have t1 : (t : Rat) ≤ ((10 ^ 20 : Nat) : Rat) := by exact_mod_cast ht
  rw [e]
  refine ⟨?_, div_nn hb0 t0, ?_⟩
  · rcases hb with rfl | rfl | rfl
    · exact ⟨(t : Int) * 18, by push_cast; grind⟩
    · exact ⟨(t : Int) * 9, by push_cast; grind⟩
    · exact ⟨(t : Int) * 2, by push_cast; grind⟩
  · have h1 : (1 : Rat) ≤ (b : Rat) := by
      have : 1 ≤ b := by omega
      exact_mod_cast this
    have d := div_mul_c (m := (t : Rat)) hb0
    have nn := div_nn hb0 t0
    have : (t : Rat) / (b : Rat) * 1 ≤ (t : Rat) / (b : Rat) * (b : Rat) := Rat.mul_le_mul_of_nonneg_left h1 nn
    grind
theorem dq_amt {q : Rat} (h : Dq q) : Amt q := by
  have r : Rd 18 (10 ^ 20) q := ⟨h.iz, h.lo, h.hi⟩
  have d := Nat.le_of_dvd (by decide) h.iz.den
  have n := r.num_le
  have e : (10 : Nat) ^ 20 = 100000000000000000000 := by decide
  rw [e] at n
  refine ⟨h.lo, ?_, ?_⟩
  · have : 100000000000000000000 * q.den ≤ 100000000000000000000 * 18 := Nat.mul_le_mul_left _ d
    omega
  · omega
theorem dq_dt {n : Nat} {x : Nat → Rat} (hn : n ≤ 3) (h : ∀ i, i < n → Dq (x i)) : Dt n x := by
  refine ⟨fun i hi => dq_amt (h i hi), fun i hi => (h i hi).iz, fun i hi => (h i hi).lo, ?_⟩
  have : ∀ m, m ≤ n → sumN m x ≤ (m : Rat) * ((10 ^ 20 : Nat) : Rat) := by
    intro m
    induction m with
    | zero => intro _; simp only [sumN]; grind
    | succ m ih =>
      intro hm
      have h1 := ih (by omega)
      have h2 := (h m (by omega)).hi
      simp only [sumN]; push_cast at *; grind
  have h1 := this n (Nat.le_refl n)
  have h2 : (n : Rat) ≤ 3 := by exact_mod_cast hn
  have h3 : (0 : Rat) ≤ ((10 ^ 20 : Nat) : Rat) := by exact_mod_cast Nat.zero_le _
  have h4 := Rat.mul_le_mul_of_nonneg_right h2 h3
  push_cast at *
  grind
theorem ev_law_dirt (k m n : Nat) (g : Gs) (hs : Sv g m) (hn : n ≤ 3) : ∃ (x : Nat → Rat) (g' : Gs), evF TT (k + 3) i_law_dirt [.mref m, .int (n : Int)] g = .ok (row n x) g' ∧ Dt n x ∧ (∀ i, i < n → Dq (x i)) ∧ Sv g' m := by
  rw [evF_s T_law_dirt, runF_eq rfl]
  show ∃ (x : Nat → Rat) (g' : Gs), outR (evSs (evF TT (k + 2)) b_law_dirt [.p (.mref m), .p (.int (n : Int)), .u, .u, .u] g) = _ ∧ _
  generalize hb : ([.asg 4 (.call i_law_some [.var 0, .lst [.lit (.int 0), .lit (.int 1), .lit (.int 3), .lit (.int 10), .lit (.int 25),
    .op .pow (.lit (.int 10)) (.lit (.int 20))]]), .asg 2 (.op .add (.var 2) (.tup [.call i_law_low [.var 4, .call i_law_some [.var 0, .lst [.lit (.int 1),
    .lit (.int 1), .lit (.int 2), .lit (.int 9)]]]]))] : List St) = body
  obtain ⟨env', g', f1, x, hx, y3, y4, he, hs'⟩ := forL_n (t := .nm 3) (f := fun (i : Nat) => D.int (i : Int)) (b := bodyOf (evF TT (k + 2)) body) (env := [.p (.mref m), .p (.int (n : Int)), .p (.tup []), .u, .u]) (g := g)
    (fun i e g => ∃ x : Nat → Rat, (∀ j, j < i → Dq (x j)) ∧ ∃ y3 y4, e = [.p (.mref m), .p (.int (n : Int)), .p (row i x), y3, y4] ∧ Sv g m) n (fun i e g hi ⟨x, hx, y3, y4, he, hs⟩ => by
      subst he
      obtain ⟨t, g2, q2, ht, hs2⟩ := some_i k m [0, 1, 3, 10, 25, 100000000000000000000] g hs (by decide) (by decide)
      obtain ⟨b, g3, q3, hb3, hs3⟩ := some_i k m [1, 1, 2, 9] g2 hs2 (by decide) (by decide)
      simp only [List.map_cons, List.map_nil] at q2 q3
      obtain ⟨tn, rfl, htn⟩ : ∃ tn : Nat, t = (tn : Int) ∧ tn ≤ 10 ^ 20 := ⟨t.toNat, by simp at ht; omega, by simp at ht; omega⟩
      obtain ⟨bn, rfl, hbn⟩ : ∃ bn : Nat, b = (bn : Int) ∧ (bn = 1 ∨ bn = 2 ∨ bn = 9) := ⟨b.toNat, by simp at hb3; omega, by simp at hb3; omega⟩
      have q := dq_of tn bn htn hbn
      have hB : (10 : Nat) ^ 20 < B2 := by rw [B2_eq]; exact Nat.lt_of_lt_of_le (show 10 ^ 20 < 2 ^ 100 by decide) (Nat.pow_le_pow_right (by decide) (by decide))
      have l := ev_law_low (k + 1) (tn : Int) (bn : Int) g3 (by omega) (by rw [natAbs_ofNat']; omega) (by rw [natAbs_ofNat']; omega)
      have a := row_snoc i x (Rat.divInt (tn : Int) (bn : Int)) (by omega)
      have pw : op2 .pow (.int 10) (.int 20) = some (.int 100000000000000000000) := by rfl
      refine ⟨[.p (.mref m), .p (.int (n : Int)), .p (row i x), .p (.int (i : Int)), y4], rfl, [.p (.mref m), .p (.int (n : Int)), .p (row (i + 1) (up x i (Rat.divInt (tn : Int) (bn : Int)))), .p (.int (i : Int)), .p (.int (tn : Int))], g3, .inl ?_, up x i (Rat.divInt (tn : Int) (bn : Int)), fun j hj => ?_, _, _, rfl, hs3⟩
      · rw [bodyOf_eq, ← hb]
        simp only [evSs_cons, evSs_nil, evS_asg, evE_call, evEs_cons, evEs_nil, evE_var, evE_lst, evE_lit, evE_op, evE_tup, getS_z, getS_s, slV_p, bind_ok, pw, of_some, q2, to_ok, setS_z, setS_s, thenS_nx, q3, l, a]
      · simp only [up]
        by_cases c : j = i
        · rw [if_pos c]; exact q
        · rw [if_neg c]; exact hx j (by omega)) ⟨fun _ => 0, fun j hj => by omega, .u, .u, rfl, hs⟩
  refine ⟨x, g', ?_, dq_dt hn hx, hx, hs'⟩
  subst he
  rw [b_law_dirt, hb]
  simp only [evSs_cons, evSs_nil, evS_asg, evE_tup, evEs_nil, bind_ok, to_ok, setS_z, setS_s, thenS_nx, evS_for, evEs_cons, evE_var, getS_z, getS_s, slV_p, fork_ok, items_rng (show n ≤ 1000000 by omega), forD_some, f1, evS_ret, thenS_ret, outR_ret]
/-- the law's own sieve -/
theorem ev_new_sieve (k : Nat) (ns : List Int) (i : Nat) (env : Env) (g : Gs) (h0 : getS env 0 = .p (.scr (ns.map D.int))) (h1 : getS env 1 = .p (.int (i : Int))) (hi : i < 1000) : ∃ g', evS (evF TT (k + 1)) (.cel 2 (.call i_law_sieve [.var 0, .var 1])) env g = .nx (setS env 2 (.p (.mref g.length))) g' ∧ Sv g' g.length := by
  obtain ⟨a, b, e, hb⟩ := ev_sieve k ns i g hi
  refine ⟨g ++ [[.int a, .int b]], ?_, a, b, by simp, hb⟩
  simp only [evS_cel, evE_call, evEs_cons, evEs_nil, evE_var, h0, h1, slV_p, bind_ok, e, to_ok, celD_lst]
  rfl
theorem law_range (ns : List Int) (a b c : Int) (ha : 0 ≤ a) (hab : a ≤ b) (hb : b ≤ 100) : ∃ nn : Nat, nn ≤ 100 ∧ bi .max2 [.int a, .int (min b ((ns.length : Int) + c))] = some (.int (nn : Int)) := by
  refine ⟨(max a (min b ((ns.length : Int) + c))).toNat, by omega, ?_⟩
  show some (D.int (if _ > _ then _ else _)) = _
  congr 2
  split <;> omega
theorem len_scr (ns : List Int) : bi .len [.scr (ns.map D.int)] = some (.int (ns.length : Int)) := by
  show some (D.int ((ns.map D.int).length : Int)) = _
  rw [List.length_map]
end Rz
/-! RzG1 -/
set_option linter.all false
set_option maxRecDepth 100000
set_option exponentiation.threshold 20000
namespace Rz
/-! ### elimination in plain numbers -/
abbrev Vc := Nat → Rat
def lead (n : Nat) (x : Vc) : Option Nat := (List.range n).find? fun i => decide (x i ≠ 0)
def ld (n : Nat) (x : Vc) : Nat := (lead n x).getD 0
def less (x y : Vc) (c : Rat) : Vc := fun i => x i - c * y i
theorem lead_of {n : Nat} {x : Vc} {l : Nat} (h1 : l < n) (h2 : x l ≠ 0) (h3 : ∀ j, j < l → x j = 0) : lead n x = some l := by
  unfold lead
  rw [List.find?_range_eq_some]
  refine ⟨by simpa using h2, by simpa using h1, fun j hj => ?_⟩
  simpa using h3 j hj
/-- a row of a basis -/
structure Ld (n : Nat) (b : Vc) : Prop where
  lt : ld n b < n
  one : b (ld n b) = 1
  lo : ∀ j, j < ld n b → b j = 0
theorem Ld.lead {n : Nat} {b : Vc} (h : Ld n b) : Rz.lead n b = some (ld n b) := lead_of h.lt (by rw [h.one]; decide) h.lo
theorem Ld.of {n : Nat} {b : Vc} {l : Nat} (h1 : l < n) (h2 : b l = 1) (h3 : ∀ j, j < l → b j = 0) : Ld n b ∧ ld n b = l := by
  have e : Rz.lead n b = some l := lead_of h1 (by rw [h2]; decide) h3
  have e2 : ld n b = l := by unfold ld; rw [e]; rfl
  exact ⟨⟨by rw [e2]; exact h1, by rw [e2]; exact h2, by rw [e2]; exact h3⟩, e2⟩
/-- reduced rows with leading ones -/
structure Bas (n : Nat) (B : List Vc) : Prop where
  lds : ∀ b ∈ B, Ld n b
  off : B.Pairwise fun b c => b (ld n c) = 0 ∧ c (ld n b) = 0
/-! ### what rows put together -/
/-- x is put together from the rows -/
def Sp (n : Nat) : List Vc → Vc → Prop
  | [], x => ∀ i, i < n → x i = 0
  | b :: B, x => ∃ c : Rat, Sp n B (less x b c)
theorem Sp.congr {n : Nat} : ∀ {B : List Vc} {x y : Vc}, Sp n B x → (∀ i, i < n → x i = y i) → Sp n B y
  | [], _, _, h, e => fun i hi => by rw [← e i hi]; exact h i hi
  | b :: B, _, _, ⟨c, h⟩, e => ⟨c, h.congr fun i hi => by simp only [less]; rw [e i hi]⟩
theorem Sp.add {n : Nat} : ∀ {B : List Vc} {x y : Vc}, Sp n B x → Sp n B y → Sp n B fun i => x i + y i
  | [], _, _, h, k => fun i hi => by
    have := h i hi
    have := k i hi
    grind
  | b :: B, _, _, ⟨c, h⟩, ⟨d, k⟩ => ⟨c + d, (h.add k).congr fun i _ => by simp only [less]; grind⟩
theorem Sp.mul {n : Nat} (s : Rat) : ∀ {B : List Vc} {x : Vc}, Sp n B x → Sp n B fun i => s * x i
  | [], _, h => fun i hi => by
    have := h i hi
    grind
  | b :: B, _, ⟨c, h⟩ => ⟨s * c, (h.mul s).congr fun i _ => by simp only [less]; grind⟩
theorem Sp.less {n : Nat} {B : List Vc} {x y : Vc} (h : Sp n B x) (k : Sp n B y) (c : Rat) : Sp n B (less x y c) := (h.add (k.mul (-c))).congr fun i _ => by simp only [Rz.less]; grind
theorem Sp.zero {n : Nat} : ∀ {B : List Vc} {x : Vc}, (∀ i, i < n → x i = 0) → Sp n B x
  | [], _, h => h
  | b :: B, _, h => ⟨0, Sp.zero fun i hi => by
    have := h i hi
    simp only [Rz.less]; grind⟩
theorem Sp.cons {n : Nat} {B : List Vc} {x : Vc} (b : Vc) (h : Sp n B x) : Sp n (b :: B) x := ⟨0, h.congr fun i _ => by simp only [Rz.less]; grind⟩
theorem Sp.mem {n : Nat} : ∀ {B : List Vc} {b : Vc}, b ∈ B → Sp n B b
  | c :: B, b, h => by
    rcases List.mem_cons.mp h with rfl | h
    · exact ⟨1, Sp.zero fun i _ => by simp only [Rz.less]; grind⟩
    · exact (Sp.mem h).cons c
theorem Sp.trans {n : Nat} {A : List Vc} : ∀ {B : List Vc} {x : Vc}, Sp n B x → (∀ b ∈ B, Sp n A b) → Sp n A x
  | [], _, h, _ => Sp.zero h
  | b :: B, x, ⟨c, h⟩, k => by
    have h1 := h.trans fun d hd => k d (List.mem_cons_of_mem _ hd)
    exact (h1.add ((k b (List.mem_cons_self ..)).mul c)).congr fun i _ => by simp only [Rz.less]; grind
theorem Sp.sub {n : Nat} {A B : List Vc} {x : Vc} (h : Sp n B x) (k : ∀ b ∈ B, b ∈ A) : Sp n A x := h.trans fun b hb => Sp.mem (k b hb)
end Rz
/-! RzG2 -/
set_option linter.all false
set_option maxRecDepth 100000
set_option exponentiation.threshold 20000
namespace Rz
theorem Bas.ne {n : Nat} {b : Vc} {B : List Vc} (h : Bas n (b :: B)) : ∀ c ∈ B, ld n c ≠ ld n b := fun c hc e => by
  have ho := (List.pairwise_cons.mp h.off).1 c hc
  have := (h.lds b (List.mem_cons_self ..)).one
  rw [← e, ho.1] at this
  exact absurd this (by decide)
theorem Bas.tail {n : Nat} {b : Vc} {B : List Vc} (h : Bas n (b :: B)) : Bas n B := ⟨fun d hd => h.lds d (List.mem_cons_of_mem _ hd), (List.pairwise_cons.mp h.off).2⟩
/-! ### sizes: a row is integers over one number -/
structure Rb (n a : Nat) (x : Vc) : Prop where
  ex : ∃ D : Nat, 0 < D ∧ D ≤ 2 ^ a ∧ ∀ c, c < n → ∃ z : Int, x c * (D : Rat) = (z : Rat) ∧ z.natAbs ≤ 2 ^ a
theorem Rb.congr {n a : Nat} {x y : Vc} (h : Rb n a x) (e : ∀ c, c < n → x c = y c) : Rb n a y := by
  obtain ⟨D, h1, h2, h3⟩ := h.ex
  exact ⟨D, h1, h2, fun c hc => by rw [← e c hc]; exact h3 c hc⟩
theorem Rb.sm {n a : Nat} {x : Vc} (h : Rb n a x) (ha : a ≤ 6600) {c : Nat} (hc : c < n) : Sm (x c) := by
  obtain ⟨D, h1, h2, h3⟩ := h.ex
  obtain ⟨z, e, hz⟩ := h3 c hc
  have p : (2 : Nat) ^ a ≤ 2 ^ 6600 := Nat.pow_le_pow_right (by decide) ha
  have q : (2 : Nat) ^ 6600 < BB := by rw [BB_eq]; exact Nat.pow_lt_pow_right (by decide) (by decide)
  have iz : Iz D (x c) := ⟨z, e⟩
  have d := Nat.le_of_dvd h1 iz.den
  refine ⟨?_, by omega⟩
  have e2 : ((x c).num * (D : Int) : Int) = z * ((x c).den : Int) := by
    have h1 := num_eq (x c)
    have : (((x c).num * (D : Int) : Int) : Rat) = ((z * ((x c).den : Int) : Int) : Rat) := by
      push_cast; rw [h1, ← e]; grind
    exact Rat.intCast_inj.mp this
  have e3 : (x c).num.natAbs * D = z.natAbs * (x c).den := by
    have := congrArg Int.natAbs e2
    rw [Int.natAbs_mul, Int.natAbs_mul] at this
    simpa using this
  have : (x c).num.natAbs * D ≤ z.natAbs * D := by rw [e3]; exact Nat.mul_le_mul_left _ d
  have := Nat.le_of_mul_le_mul_right this h1
  omega
theorem Rb.less {n a b : Nat} {x y : Vc} (hx : Rb n a x) (hy : Rb n b y) {l : Nat} (hl : l < n) : Rb n (a + b + 1) (less x y (x l)) := by
  obtain ⟨D, d1, d2, h3⟩ := hx.ex
  obtain ⟨E, e1, e2, k3⟩ := hy.ex
  obtain ⟨w, we, hw⟩ := h3 l hl
  have p : (2 : Nat) ^ (a + b + 1) = 2 ^ a * 2 ^ b * 2 := by rw [Nat.pow_add, Nat.pow_add]
  have m : D * E ≤ 2 ^ a * 2 ^ b := Nat.mul_le_mul d2 e2
  refine ⟨D * E, Nat.mul_pos d1 e1, by omega, fun c hc => ?_⟩
  obtain ⟨z, ze, hz⟩ := h3 c hc
  obtain ⟨v, ve, hv⟩ := k3 c hc
  refine ⟨z * E - w * v, ?_, ?_⟩
  · simp only [Rz.less]; push_cast; rw [← ze, ← we, ← ve]; grind
  · have m1 : (z * (E : Int)).natAbs ≤ 2 ^ a * 2 ^ b := by rw [Int.natAbs_mul]; exact Nat.mul_le_mul hz (by simpa using e2)
    have m2 : (w * v).natAbs ≤ 2 ^ a * 2 ^ b := by rw [Int.natAbs_mul]; exact Nat.mul_le_mul hw hv
    omega
/-! ### as many leads as columns -/
theorem cover {n : Nat} : ∀ {L : List Nat}, L.Nodup → (∀ x ∈ L, x < n) → n ≤ L.length → L.length = n ∧ ∀ j, j < n → j ∈ L := by
  induction n with
  | zero =>
    intro L _ h _
    cases L with
    | nil => exact ⟨rfl, fun j hj => by omega⟩
    | cons a L => have := h a (List.mem_cons_self ..); omega
  | succ n ih =>
    intro L hd h hl
    by_cases c : n ∈ L
    · have h1 : (L.erase n).Nodup := hd.erase n
      have h2 : ∀ x ∈ L.erase n, x < n := fun x hx => by
        have := (List.Nodup.mem_erase_iff hd).mp hx
        have := h x this.2
        omega
      have h3 : (L.erase n).length = L.length - 1 := List.length_erase_of_mem c
      obtain ⟨e, k⟩ := ih h1 h2 (by omega)
      have hp : 0 < L.length := List.length_pos_of_mem c
      refine ⟨by omega, fun j hj => ?_⟩
      by_cases e2 : j = n
      · rw [e2]; exact c
      · exact List.mem_of_mem_erase (k j (by omega))
    · have h2 : ∀ x ∈ L, x < n := fun x hx => by
        have := h x hx
        have : x ≠ n := fun e => c (e ▸ hx)
        omega
      -- too many below n
      have h4 := ih hd h2 (by omega)
      omega
theorem Bas.nodup {n : Nat} : ∀ {B : List Vc}, Bas n B → (B.map (ld n)).Nodup
  | [], _ => List.nodup_nil
  | b :: B, h => by
    rw [List.map_cons, List.nodup_cons]
    refine ⟨fun hm => ?_, h.tail.nodup⟩
    obtain ⟨c, hc, e⟩ := List.mem_map.mp hm
    exact h.ne c hc e
theorem Bas.cov {n : Nat} {B : List Vc} (h : Bas n B) (hl : n ≤ B.length) : B.length = n ∧ ∀ j, j < n → ∃ b ∈ B, ld n b = j := by
  obtain ⟨e, k⟩ := cover h.nodup (fun x hx => by
    obtain ⟨b, hb, rfl⟩ := List.mem_map.mp hx
    exact (h.lds b hb).lt) (by simpa using hl)
  refine ⟨by simpa using e, fun j hj => ?_⟩
  obtain ⟨b, hb, e⟩ := List.mem_map.mp (k j hj)
  exact ⟨b, hb, e⟩
theorem Bas.len {n : Nat} {B : List Vc} (h : Bas n B) : B.length ≤ n := by
  by_cases c : n ≤ B.length
  · have := (h.cov c).1; omega
  · omega
/-! ### sizes of a basis -/
/-- how large the rows of a basis of k rows are -/
def bd (e : Nat) : Nat → Nat
  | 0 => 0
  | 1 => e
  | 2 => 3 * e + 2
  | _ => 10 * e + 9
end Rz
/-! RzG3 -/
set_option linter.all false
set_option maxRecDepth 100000
set_option exponentiation.threshold 20000
namespace Rz
end Rz
/-! RzG4 -/
set_option linter.all false
set_option maxRecDepth 100000
set_option exponentiation.threshold 20000
namespace Rz
end Rz
/-! RzG5 -/
set_option linter.all false
set_option maxRecDepth 100000
set_option exponentiation.threshold 20000
namespace Rz
end Rz
/-! RzG6 -/
set_option linter.all false
set_option maxRecDepth 100000
set_option exponentiation.threshold 20000
namespace Rz
/-- D is below all rows -/
structure Cb (n D M : Nat) (B : List Vc) : Prop where
  pos : 0 < D
  le : D ≤ M
  z : ∀ b ∈ B, ∀ c, c < n → ∃ z : Int, b c * (D : Rat) = (z : Rat) ∧ z.natAbs ≤ M
theorem Cb.tail {n D M : Nat} {b : Vc} {B : List Vc} (h : Cb n D M (b :: B)) : Cb n D M B := ⟨h.pos, h.le, fun c hc => h.z c (List.mem_cons_of_mem _ hc)⟩
/-- a basis of at most three rows over one number -/
def cd (e : Nat) : Nat → Nat
  | 0 => 0
  | 1 => e + 3
  | 2 => 3 * e + 9
  | _ => 7 * e + 21
end Rz
/-! RzG7 -/
set_option linter.all false
set_option maxRecDepth 100000
set_option exponentiation.threshold 20000
namespace Rz
abbrev Smp := Nat × Nat
/-- the row of a sample -/
def sv (n : Nat) (V : Ves) (ss : List Stp) (s : Smp) : Vc := fun i => powN n (Tb V ss) s.1 i s.2 * (1 / ((V.beg s.2 : Int) : Rat))
theorem iz_le1 {D : Nat} {q : Rat} (h : Iz D q) (h0 : 0 ≤ q) (h1 : q ≤ 1) : ∃ z : Int, q * (D : Rat) = (z : Rat) ∧ z.natAbs ≤ D := by
  obtain ⟨z, e⟩ := h
  refine ⟨z, e, ?_⟩
  have p : (0 : Rat) ≤ (D : Rat) := by exact_mod_cast Nat.zero_le D
  have a : (0 : Rat) ≤ ((z : Int) : Rat) := by rw [← e]; exact Rat.mul_nonneg h0 p
  have b : ((z : Int) : Rat) ≤ ((D : Int) : Rat) := by
    rw [← e]
    have := Rat.mul_le_mul_of_nonneg_right h1 p
    push_cast; grind
  have a' : 0 ≤ z := by exact_mod_cast a
  have b' : z ≤ (D : Int) := Rat.intCast_le_intCast.mp b
  omega
theorem wx0 (n : Nat) (V : Ves) (ss : List Stp) (g : Gs) : ixD g (wayD n V ss) (.int 0) = some (vsD n V) := ix_t0 g _ _
theorem lenV (n : Nat) (V : Ves) : bi .len [vsD n V] = some (.int (n : Int)) := len_tf _ _
end Rz
/-! RzG8 -/
set_option linter.all false
set_option maxRecDepth 100000
set_option exponentiation.threshold 20000
namespace Rz
theorem pl_lst {k : Nat} {ds : List D} (h : ∀ d ∈ ds, Pl k d) : Pl (k + 1) (.lst ds) := ⟨shps_all k ds fun d hd => (h d hd).shp, eqvs_refl ds fun d hd => (h d hd).refl⟩
end Rz
/-! RzG9 -/
set_option linter.all false
set_option maxRecDepth 100000
set_option exponentiation.threshold 20000
namespace Rz
/-! ### rows put together, by numbers -/
theorem sumN_front (m : Nat) (f : Nat → Rat) : sumN (m + 1) f = f 0 + sumN m fun c => f (c + 1) := by
  induction m with
  | zero => simp only [sumN]; grind
  | succ m ih =>
    have e : sumN (m + 1 + 1) f = sumN (m + 1) f + f (m + 1) := rfl
    rw [e, ih]; simp only [sumN]; grind
theorem coef_sp {n : Nat} : ∀ {L : List Vc} (s : Nat → Rat), Sp n L fun i => sumN L.length fun c => (L.getD c (fun _ => 0)) i * s c
  | [], s => fun i _ => rfl
  | b :: L, s => by
    refine ⟨s 0, (coef_sp (n := n) (L := L) fun j => s (j + 1)).congr fun i _ => ?_⟩
    rw [List.length_cons]
    simp only [less]
    rw [sumN_front]
    simp
    grind
theorem getD_map {n : Nat} {V : Ves} {ss : List Stp} (S : List Smp) {c : Nat} (hc : c < S.length) : (S.map (sv n V ss)).getD c (fun _ => 0) = sv n V ss (S.getD c (0, 0)) := by
  simp [List.getD, hc]
structure NumOk (n : Nat) (V : Ves) (ss : List Stp) (S : List Smp) (s : Smp) (f : Vc) : Prop where
  rb : Rb S.length 4186 f
  sum : ∀ a, a < n → (sumN S.length fun c => f c * sv n V ss (S.getD c (0, 0)) a) = sv n V ss s a
theorem NumOk.sp {n : Nat} {V : Ves} {ss : List Stp} {S : List Smp} {s : Smp} {f : Vc} (h : NumOk n V ss S s f) : Sp n (S.map (sv n V ss)) (sv n V ss s) := by
  refine (coef_sp (L := S.map (sv n V ss)) f).congr fun i hi => ?_
  rw [← h.sum i hi, List.length_map]
  exact sumN_congr fun c hc => by rw [getD_map S hc]; grind
def mapT (n : Nat) (A : Nat → Nat → Rat) (x : Vc) : Vc := fun i => sumN n fun k => A i k * x k
theorem mapT_less (n : Nat) (A : Nat → Nat → Rat) (x y : Vc) (c : Rat) : mapT n A (less x y c) = less (mapT n A x) (mapT n A y) c := by
  funext i
  simp only [mapT, less]
  rw [← sumN_mull]
  have : (sumN n fun k => A i k * x k) - (sumN n fun k => c * (A i k * y k)) = (sumN n fun k => A i k * x k) + (-1) * sumN n fun k => c * (A i k * y k) := by grind
  rw [this, ← sumN_mull, ← sumN_add]
  exact sumN_congr fun k _ => by grind
theorem Sp.map {n : Nat} (A : Nat → Nat → Rat) : ∀ {B : List Vc} {x : Vc}, Sp n B x → Sp n (B.map (mapT n A)) (mapT n A x)
  | [], x, h => fun i hi => by
    simp only [mapT]
    rw [← sumN_zero n]
    exact sumN_congr fun k hk => by rw [h k hk]; grind
  | b :: B, x, ⟨c, h⟩ => ⟨c, by rw [← mapT_less]; exact h.map A⟩
end Rz
/-! RzG10 -/
set_option linter.all false
set_option maxRecDepth 100000
set_option exponentiation.threshold 20000
namespace Rz
end Rz
/-! RzG11 -/
set_option linter.all false
set_option maxRecDepth 100000
set_option exponentiation.threshold 20000
namespace Rz
end Rz
/-! RzG12 -/
set_option linter.all false
set_option maxRecDepth 100000
set_option exponentiation.threshold 20000
namespace Rz
theorem compL_filter {f c : Env → Gs → R D} {t : Tg} {α : Type} {env : Env} {g : Gs} (p : α → Bool) (y : α → D) (enc : α → D) : ∀ (l : List α), (∀ a ∈ l, ∃ e1, bindT t (enc a) env = some e1 ∧ c e1 g = .ok (.bl (p a)) g ∧ (p a = true → f e1 g = .ok (y a) g)) →
    compL f c t (l.map enc) env g = .ok ((l.filter p).map y) g
  | [], _ => rfl
  | a :: l, h => by
    obtain ⟨e1, h1, h2, h3⟩ := h a (List.mem_cons_self ..)
    have ih := compL_filter p y enc l fun b hb => h b (List.mem_cons_of_mem _ hb)
    cases e : p a with
    | true =>
      rw [e] at h2
      have h3 := h3 e
      rw [List.filter_cons_of_pos e]
      simp only [List.map_cons, compL, h1, h2, h3, ih]
    | false =>
      rw [e] at h2
      rw [List.filter_cons_of_neg (by rw [e]; exact Bool.false_ne_true)]
      simp only [List.map_cons, compL, h1, h2, ih]
theorem compD_f {C : Nat → List D → Gs → R D} {env : Env} {g : Gs} {e cnd : Ex} {t : Tg} {α : Type} (l : List α) (enc : α → D) (p : α → Bool) (y : α → D) (hn : l.length ≤ 1000000) (h : ∀ a ∈ l, ∃ e1, bindT t (enc a) (wipeS t.ix env) = some e1 ∧ evE C cnd e1 g = .ok (.bl (p a)) g ∧ (p a = true → evE C e e1 g = .ok (y a) g)) :
    compD C e t [cnd] env g (some (l.map enc)) = .ok (.lst ((l.filter p).map y)) g := by
  unfold compD
  have hz : Nat.ble (l.map enc).length lineN = true := Nat.ble_eq_true_of_le (by simpa [lineN] using hn)
  simp only [hz, if_true]
  rw [compL_filter (f := fun env g => evE C e env g) (c := fun env g => evC C [cnd] env g) (t := t) (env := wipeS t.ix env) (g := g) p y enc l h]
/-! ### numbers put at places -/
def putN : List Nat → (Nat → Rat) → Vc → Vc
  | [], _, x => x
  | p :: l, f, x => putN l (fun c => f (c + 1)) (up x p (f 0))
theorem putN_out {l : List Nat} : ∀ {f : Nat → Rat} {x : Vc} {q : Nat}, q ∉ l → putN l f x q = x q := by
  induction l with
  | nil => intro f x q _; rfl
  | cons p l ih =>
    intro f x q h
    rw [List.mem_cons, not_or] at h
    show putN l _ (up x p (f 0)) q = x q
    rw [ih h.2]
    simp only [up]; rw [if_neg h.1]
theorem putN_sum {n : Nat} (y : Vc) : ∀ {l : List Nat} {f : Nat → Rat} {x : Vc}, l.Nodup → (∀ p ∈ l, p < n) → (∀ p ∈ l, x p = 0) → sumN n (fun q => y q * putN l f x q) = sumN n (fun q => y q * x q) + sumN l.length fun c => y (l.getD c 0) * f c
  | [], f, x, _, _, _ => by simp only [putN, List.length_nil, sumN]; grind
  | p :: l, f, x, hd, hl, hx => by
    rw [List.nodup_cons] at hd
    have h0 : ∀ q ∈ l, up x p (f 0) q = 0 := fun q hq => by
      have : q ≠ p := fun e => hd.1 (e ▸ hq)
      simp only [up]; rw [if_neg this]; exact hx q (List.mem_cons_of_mem _ hq)
    have ih := putN_sum y (l := l) (f := fun c => f (c + 1)) (x := up x p (f 0)) hd.2 (fun q hq => hl q (List.mem_cons_of_mem _ hq)) h0
    show sumN n (fun q => y q * putN l _ (up x p (f 0)) q) = _
    rw [ih, List.length_cons, sumN_front]
    have e : sumN n (fun q => y q * up x p (f 0) q) = sumN n (fun q => y q * x q) + y p * f 0 := by
      have : (fun q => y q * up x p (f 0) q) = up (fun q => y q * x q) p (y p * f 0) := by
        funext q
        by_cases h : q = p
        · subst h; simp [up]
        · simp [up, h]
      rw [this, sumN_up, if_pos (hl p (List.mem_cons_self ..)), hx p (List.mem_cons_self ..)]; grind
    rw [e]
    have e2 : (fun c => y ((p :: l).getD (c + 1) 0) * f (c + 1)) = fun c => y (l.getD c 0) * f (c + 1) := rfl
    have e3 : (p :: l).getD 0 0 = p := rfl
    rw [e2, e3]; grind
end Rz
/-! RzG13 -/
set_option linter.all false
set_option maxRecDepth 100000
set_option exponentiation.threshold 20000
namespace Rz
theorem sumN_z {n : Nat} {x : Nat → Rat} (h : ∀ i, i < n → x i = 0) : sumN n x = 0 := by
  rw [sumN_congr h]; exact sumN_zero n
section
variable {n r e : Nat} {L : Nat → Vc} {q : Vc}
end
end Rz
/-! RzG14 -/
set_option linter.all false
set_option maxRecDepth 100000
set_option exponentiation.threshold 20000
namespace Rz
theorem forL_cons {b : Env → Gs → SR} {t : Tg} {d : D} {ds : List D} {env e1 : Env} {g : Gs} (h : bindT t d env = some e1) : forL b t (d :: ds) env g = match b e1 g with
      | .nx e2 g2 => forL b t ds e2 g2
      | .cnt e2 g2 => forL b t ds e2 g2
      | .brk e2 g2 => .nx e2 g2
      | r => r := by
  rw [show forL b t (d :: ds) env g = (match bindT t d env with
    | none => SR.no
    | some e1 => match b e1 g with
      | .nx e2 g2 => forL b t ds e2 g2
      | .cnt e2 g2 => forL b t ds e2 g2
      | .brk e2 g2 => .nx e2 g2
      | r => r) from rfl, h]
theorem forL_nx {b : Env → Gs → SR} {t : Tg} {d : D} {ds : List D} {env e1 e2 : Env} {g g2 : Gs} (h : bindT t d env = some e1) (h2 : b e1 g = .nx e2 g2) : forL b t (d :: ds) env g = forL b t ds e2 g2 := by rw [forL_cons h, h2]
theorem forL_ret {b : Env → Gs → SR} {t : Tg} {d : D} {ds : List D} {env e1 : Env} {g g2 : Gs} {x : D} (h : bindT t d env = some e1) (h2 : b e1 g = .ret x g2) : forL b t (d :: ds) env g = .ret x g2 := by rw [forL_cons h, h2]
end Rz
/-! RzG15 -/
set_option linter.all false
set_option maxRecDepth 100000
set_option exponentiation.threshold 20000
namespace Rz
end Rz
/-! RzG16 -/
set_option linter.all false
set_option maxRecDepth 400000
set_option exponentiation.threshold 20000
namespace Rz
end Rz
/-! RzG17 -/
set_option linter.all false
set_option maxRecDepth 100000
set_option exponentiation.threshold 20000
namespace Rz
def dotN (n : Nat) (y x : Vc) : Rat := sumN n fun i => y i * x i
end Rz
/-! RzG18 -/
set_option linter.all false
set_option maxRecDepth 100000
set_option exponentiation.threshold 20000
namespace Rz
end Rz
/-! RzG19 -/
set_option linter.all false
set_option maxRecDepth 100000
set_option exponentiation.threshold 20000
namespace Rz
end Rz
/-! RzG20 -/
set_option linter.all false
set_option maxRecDepth 100000
set_option exponentiation.threshold 20000
namespace Rz
section
end
end Rz
/-! RzG21 -/
set_option linter.all false
set_option maxRecDepth 100000
set_option exponentiation.threshold 20000
namespace Rz
end Rz
/-! RzG22 -/
set_option linter.all false
set_option maxRecDepth 100000
set_option exponentiation.threshold 20000
namespace Rz
end Rz
/-! RzG23 -/
set_option linter.all false
set_option maxRecDepth 100000
set_option exponentiation.threshold 20000
namespace Rz
end Rz
/-! RzG24 -/
set_option linter.all false
set_option maxRecDepth 100000
set_option exponentiation.threshold 20000
namespace Rz
/-! ### tables of ways, more and more rounds -/
structure Tbl (n : Nat) (P : Nat → Nat → Rat) : Prop where
  n0 : 0 < n
  n3 : n ≤ 3
  nn : ∀ i j, i < n → j < n → 0 ≤ P i j
  le : ∀ i, i < n → sumN n (P i) ≤ 1
  dg : ∀ i, i < n → 0 < P i i
/-! ### the pattern of a table -/
def patB (P : Nat → Nat → Rat) (i j : Nat) : Bool := !decide (P i j = 0)
/-- a way of at most two edges -/
def rcB (n : Nat) (B : Nat → Nat → Bool) (i j : Nat) : Bool := (List.range n).any fun k => B i k && B k j
/-- the places behind a place -/
def rchN (n : Nat) (B : Nat → Nat → Bool) (i : Nat) : List Nat := (List.range n).filter fun j => rcB n B i j
end Rz
/-! RzG25 -/
set_option linter.all false
set_option maxRecDepth 100000
set_option exponentiation.threshold 20000
namespace Rz
def restP (n : Nat) (B : Nat → Nat → Bool) (u : Nat → Bool) (p : Nat) : Prop := (∀ o, o ∈ rchN n B p → rchN n B o = rchN n B p) ∧ ∀ o, o ∈ rchN n B p → u o = true
section
variable {n : Nat} {B : Nat → Nat → Bool} {u : Nat → Bool}
end
/-! ### numbers that a round leaves as they are -/
def sum1 (n : Nat) (P : Nat → Nat → Rat) (i : Nat) : Bool := decide (sumN n (P i) = 1)
end Rz
/-! RzG26 -/
set_option linter.all false
set_option maxRecDepth 100000
set_option exponentiation.threshold 20000
namespace Rz
/-! ### the limit, put together from its lots -/
def lqs {α : Type} : List α → (α → Rat) → Rat
  | [], _ => 0
  | a :: l, f => f a + lqs l f
theorem lqs_congr {α : Type} : ∀ {l : List α} {f g : α → Rat}, (∀ a ∈ l, f a = g a) → lqs l f = lqs l g
  | [], _, _, _ => rfl
  | a :: l, f, g, h => by
    show f a + lqs l f = g a + lqs l g
    rw [h a (List.mem_cons_self ..), lqs_congr fun b hb => h b (List.mem_cons_of_mem _ hb)]
theorem sum_lqs {α : Type} (n : Nat) (a : Nat → Rat) (f : Nat → α → Rat) : ∀ l : List α, sumN n (fun k => a k * lqs l (f k)) = lqs l fun q => sumN n fun k => a k * f k q
  | [] => sumN_z fun k _ => by show a k * 0 = 0; grind
  | q :: l => by
    have e : (fun k => a k * lqs (q :: l) (f k)) = fun k => a k * f k q + a k * lqs l (f k) := by
      funext k
      show a k * (f k q + lqs l (f k)) = _
      grind
    rw [e, sumN_add, sum_lqs n a f l]; rfl
/-- a lot: its places, the share that comes to it from each place, the parts of its places -/
abbrev Lt := List Nat × Vc × Vc
def limN (Q : List Lt) (i j : Nat) : Rat := lqs Q fun q => q.2.1 i * q.2.2 j
structure Lts (n : Nat) (P : Nat → Nat → Rat) (Q : List Lt) : Prop where
  hh : ∀ q ∈ Q, ∀ i, i < n → q.2.1 i = sumN n fun j => P i j * q.2.1 j
  pp : ∀ q ∈ Q, ∀ j, j < n → q.2.2 j = sumN n fun i => q.2.2 i * P i j
  one : ∀ q ∈ Q, dotN n q.2.2 q.2.1 = 1
  off : Q.Pairwise fun a b => dotN n a.2.2 b.2.1 = 0 ∧ dotN n b.2.2 a.2.1 = 0
  cov : ∀ p, p < n → restP n (patB P) (sum1 n P) p → ∃ q ∈ Q, q.1 = rchN n (patB P) p ∧ q.2.1 p = 1 ∧ ∀ r ∈ Q, r = q ∨ r.2.1 p = 0
  sup : ∀ q ∈ Q, ∀ j, j < n → j ∉ q.1 → q.2.2 j = 0
  sm : ∀ q ∈ Q, sumN n q.2.2 = 1
section
variable {n : Nat} {P : Nat → Nat → Rat} {Q : List Lt}
theorem Lts.pl (h : Lts n P Q) (i j : Nat) (hi : i < n) : (sumN n fun k => P i k * limN Q k j) = limN Q i j := by
  unfold limN
  rw [sum_lqs]
  refine lqs_congr fun q hq => ?_
  have e : (fun k => P i k * (q.2.1 k * q.2.2 j)) = fun k => (P i k * q.2.1 k) * q.2.2 j := by funext k; grind
  rw [e, sumN_mulr, ← h.hh q hq i hi]
end
end Rz
/-! RzG27 -/
set_option linter.all false
set_option maxRecDepth 100000
set_option exponentiation.threshold 20000
namespace Rz
end Rz
/-! RzG28 -/
set_option linter.all false
set_option maxRecDepth 100000
set_option exponentiation.threshold 20000
namespace Rz
/-! ### the parts of a lot -/
structure LotR (n : Nat) (P : Nat → Nat → Rat) (R : List Nat) : Prop where
  nd : R.Nodup
  lt : ∀ p ∈ R, p < n
  ne : 0 < R.length
  cl : ∀ i ∈ R, ∀ j, j < n → j ∉ R → P i j = 0
  s1 : ∀ i ∈ R, sumN n (P i) = 1
theorem putN_at : ∀ {R : List Nat} {f : Nat → Rat} {x : Vc} {c : Nat}, R.Nodup → c < R.length → putN R f x (R.getD c 0) = f c
  | [], _, _, _, _, h => by simp at h
  | p :: l, f, x, 0, hd, _ => by
    rw [List.nodup_cons] at hd
    show putN l (fun c => f (c + 1)) (up x p (f 0)) p = f 0
    rw [putN_out hd.1]; simp [up]
  | p :: l, f, x, c + 1, hd, hc => by
    rw [List.nodup_cons] at hd
    show putN l (fun c => f (c + 1)) (up x p (f 0)) (l.getD c 0) = f (c + 1)
    rw [putN_at (c := c) hd.2 (by simpa using hc)]
theorem mem_getD {R : List Nat} {p : Nat} (h : p ∈ R) : ∃ c, c < R.length ∧ R.getD c 0 = p := by
  obtain ⟨c, hc, e⟩ := List.getElem_of_mem h
  exact ⟨c, hc, by simp [List.getD, hc, e]⟩
theorem putN_sum0 {n : Nat} {R : List Nat} (nd : R.Nodup) (lt : ∀ p ∈ R, p < n) (y : Vc) (f : Nat → Rat) : sumN n (fun q => y q * putN R f (fun _ => 0) q) = sumN R.length fun c => y (R.getD c 0) * f c := by
  rw [putN_sum y nd lt (fun p _ => rfl), sumN_z fun q _ => by show y q * 0 = 0; grind]
  grind
section
variable {n : Nat} {P : Nat → Nat → Rat} {R : List Nat}
theorem LotR.row (L : LotR n P R) {i : Nat} (hi : i ∈ R) : (sumN R.length fun a => P i (R.getD a 0)) = 1 := by
  rw [← L.s1 i hi]
  have e := putN_sum0 L.nd L.lt (P i) fun _ => 1
  have e1 : (fun c => P i (R.getD c 0) * (1 : Rat)) = fun c => P i (R.getD c 0) := by funext c; grind
  rw [e1] at e
  rw [← e]
  refine sumN_congr fun q hq => ?_
  by_cases m : q ∈ R
  · obtain ⟨c, hc, rfl⟩ := mem_getD m
    rw [putN_at L.nd hc]; grind
  · rw [L.cl i hi q hq m]; grind
end
end Rz
/-! RzG29 -/
set_option linter.all false
set_option maxRecDepth 100000
set_option exponentiation.threshold 20000
namespace Rz
section
variable {n : Nat} {P : Nat → Nat → Rat} {R : List Nat}
end
end Rz
/-! RzG30 -/
set_option linter.all false
set_option maxRecDepth 100000
set_option exponentiation.threshold 20000
namespace Rz
section
variable {n : Nat} {P : Nat → Nat → Rat} {R : List Nat}
end
end Rz
/-! RzG31 -/
set_option linter.all false
set_option maxRecDepth 100000
set_option exponentiation.threshold 20000
namespace Rz
end Rz
/-! RzG32 -/
set_option linter.all false
set_option maxRecDepth 100000
set_option exponentiation.threshold 20000
namespace Rz
end Rz
/-! RzG33 -/
set_option linter.all false
set_option maxRecDepth 100000
set_option exponentiation.threshold 20000
namespace Rz
end Rz
/-! RzG34 -/
set_option linter.all false
set_option maxRecDepth 100000
set_option exponentiation.threshold 20000
namespace Rz
end Rz
/-! RzG35 -/
set_option linter.all false
set_option maxRecDepth 100000
set_option exponentiation.threshold 20000
namespace Rz
end Rz
/-! RzG36 -/
set_option linter.all false
set_option maxRecDepth 100000
set_option exponentiation.threshold 20000
namespace Rz
end Rz
/-! RzG37 -/
set_option linter.all false
set_option maxRecDepth 100000
set_option exponentiation.threshold 20000
namespace Rz
end Rz
/-! RzG38 -/
set_option linter.all false
set_option maxRecDepth 100000
set_option exponentiation.threshold 20000
namespace Rz
end Rz
/-! RzG39 -/
set_option linter.all false
set_option maxRecDepth 100000
set_option exponentiation.threshold 20000
namespace Rz
end Rz
/-! RzG40 -/
set_option linter.all false
set_option maxRecDepth 100000
set_option exponentiation.threshold 20000
namespace Rz
end Rz
/-! RzG41 -/
set_option linter.all false
set_option maxRecDepth 100000
set_option exponentiation.threshold 20000
namespace Rz
end Rz
/-! RzG42 -/
set_option linter.all false
set_option maxRecDepth 100000
set_option exponentiation.threshold 20000
namespace Rz
end Rz
/-! RzG43 -/
set_option linter.all false
set_option maxRecDepth 100000
set_option exponentiation.threshold 20000
namespace Rz
end Rz
/-! RzG44 -/
set_option linter.all false
set_option maxRecDepth 100000
set_option exponentiation.threshold 20000
namespace Rz
/-! ### tables over one number; limits and stays by the program -/
structure Mz (n a : Nat) (A : Nat → Nat → Rat) : Prop where
  ex : ∃ D : Nat, 0 < D ∧ D ≤ 2 ^ a ∧ ∀ i j, i < n → j < n → ∃ z : Int, A i j * (D : Rat) = (z : Rat) ∧ z.natAbs ≤ 2 ^ a
theorem Mz.row {n a : Nat} {A : Nat → Nat → Rat} (h : Mz n a A) {i : Nat} (hi : i < n) : Rb n a (A i) := by
  obtain ⟨D, d1, d2, d3⟩ := h.ex
  exact ⟨D, d1, d2, fun c hc => d3 i c hi hc⟩
theorem Mz.sm {n a : Nat} {A : Nat → Nat → Rat} (h : Mz n a A) (ha : a ≤ 6600) {i j : Nat} (hi : i < n) (hj : j < n) : Sm (A i j) := (h.row hi).sm ha hj
end Rz
/-! RzG45 -/
set_option linter.all false
set_option maxRecDepth 100000
set_option exponentiation.threshold 20000
namespace Rz
end Rz
/-! RzG46 -/
set_option linter.all false
set_option maxRecDepth 100000
set_option exponentiation.threshold 20000
namespace Rz
section
variable {n : Nat} {P : Nat → Nat → Rat} {a : Nat}
end
section
variable {n : Nat} {P Q : Nat → Nat → Rat} {a : Nat}
end
end Rz
/-! RzG47 -/
set_option linter.all false
set_option maxRecDepth 100000
set_option exponentiation.threshold 20000
namespace Rz
/-! ### tables whose rows come from ways; the greatest of all choices -/
structure Tm (n : Nat) (P : Nat → Nat → Rat) : Prop where
  t : Tbl n P
  w : ∀ i, i < n → ∃ W : Nat, 0 < W ∧ W ≤ 2 ^ 29 ∧ Dr W 1 n (P i)
theorem Tm.rb {n : Nat} {P : Nat → Nat → Rat} (h : Tm n P) {i : Nat} (hi : i < n) : Rb n 29 (P i) := by
  obtain ⟨W, w0, hW, d⟩ := h.w i hi
  exact ⟨W, w0, hW, fun j hj => by
    obtain ⟨z, e, hz⟩ := iz_le1 (d.iz j hj) (d.lo j hj) (d.le1 hj)
    exact ⟨z, e, by omega⟩⟩
theorem Tm.sm {n : Nat} {P : Nat → Nat → Rat} (h : Tm n P) {i j : Nat} (hi : i < n) (hj : j < n) : Sm (P i j) := (h.rb hi).sm (by decide) hj
section
variable {n a : Nat} {P Q : Nat → Nat → Rat}
end
end Rz
/-! RzG48 -/
set_option linter.all false
set_option maxRecDepth 100000
set_option exponentiation.threshold 20000
namespace Rz
end Rz
/-! RzG49 -/
set_option linter.all false
set_option maxRecDepth 100000
set_option exponentiation.threshold 20000
namespace Rz
end Rz
/-! RzG50 -/
set_option linter.all false
set_option maxRecDepth 100000
set_option exponentiation.threshold 20000
namespace Rz
end Rz
/-! RzG51 -/
set_option linter.all false
set_option maxRecDepth 100000
set_option exponentiation.threshold 20000
namespace Rz
/-! ### rules of raise and try -/
section
variable {C : Nat → List D → Gs → R D} {env : Env} {g : Gs}
@[simp] theorem evS_rai0 (c : Nat) : evS C (.rai c []) env g = .exc c .non env g := nr rfl
@[simp] theorem thenS_exc (ss : List St) (c : Nat) (p : D) : thenS C ss (.exc c p env g) = .exc c p env g := nr rfl
@[simp] theorem outR_exc (c : Nat) (p : D) : outR (.exc c p env g) = .exc c p g := nr rfl
@[simp] theorem to_exc (c : Nat) (p : D) (f : D → Gs → SR) : (R.exc c p g).to env f = .exc c p env g := nr rfl
def tryD (C : Nat → List D → Gs → R D) (hs : List (Nat × Option Nat × List St)) : SR → SR
  | .exc c p env g => evH C hs c p env g
  | r => r
@[simp] theorem evS_try (b : List St) (hs : List (Nat × Option Nat × List St)) : evS C (.try_ b hs) env g = tryD C hs (evSs C b env g) := by
  show (match evSs C b env g with | .exc c p env' g' => evH C hs c p env' g' | r => r) = _
  cases evSs C b env g <;> rfl
@[simp] theorem tryD_nx (hs : List (Nat × Option Nat × List St)) : tryD C hs (.nx env g) = .nx env g := nr rfl
@[simp] theorem tryD_exc (hs : List (Nat × Option Nat × List St)) (c : Nat) (p : D) : tryD C hs (.exc c p env g) = evH C hs c p env g := nr rfl
@[simp] theorem noX_nx : (SR.nx env g).noX = .nx env g := nr rfl
end
theorem ne_pl {x y : D} (hx : Pl 60 x) (hy : Pl 60 y) : op2 .ne x y = some (.bl (!D.eqv x y)) := by
  show (if shp2 x y = true then _ else none) = _
  rw [if_pos (by unfold shp2; rw [hx.shp, hy.shp]; rfl)]
theorem eq_pl {x y : D} (hx : Pl 60 x) (hy : Pl 60 y) : op2 .eq x y = some (.bl (D.eqv x y)) := by
  show (if shp2 x y = true then _ else none) = _
  rw [if_pos (by unfold shp2; rw [hx.shp, hy.shp]; rfl)]
end Rz
/-! RzG52 -/
set_option linter.all false
set_option maxRecDepth 100000
set_option exponentiation.threshold 20000
namespace Rz
end Rz
/-! RzG53 -/
set_option linter.all false
set_option maxRecDepth 100000
set_option exponentiation.threshold 20000
namespace Rz
end Rz
/-! RzG54 -/
set_option linter.all false
set_option maxRecDepth 100000
set_option exponentiation.threshold 20000
namespace Rz
/-! ### k01: data of bounded depth and size -/
@[irreducible] def ZB (n : Nat) : Nat := 10 ^ 40 + 10 * n
theorem ZB_eq (n : Nat) : ZB n = 10 ^ 40 + 10 * n := by unfold ZB; rfl
inductive Vb : Nat → Nat → D → Prop
  | non (k n : Nat) : Vb k n .non
  | bl (k n : Nat) (b : Bool) : Vb k n (.bl b)
  | int (k n : Nat) (i : Int) (h : i.natAbs < ZB n) : Vb k n (.int i)
  | str (k n : Nat) (s : List Nat) (h : s.length ≤ n) (h2 : ∀ c ∈ s, c < 128) : Vb k n (.str s)
  | tup (k n : Nat) (ds : List D) (h : ds.length ≤ n) (h2 : ∀ d ∈ ds, Vb k n d) : Vb (k + 1) n (.tup ds)
  | lst (k n : Nat) (ds : List D) (h : ds.length ≤ n) (h2 : ∀ d ∈ ds, Vb k n d) : Vb (k + 1) n (.lst ds)
theorem Vb.up {k n : Nat} {d : D} (h : Vb k n d) : ∀ {k' n' : Nat}, k ≤ k' → n ≤ n' → Vb k' n' d := by
  induction h with
  | non => intros; exact .non _ _
  | bl => intros; exact .bl _ _ _
  | int k n i h => intro k' n' _ hn; exact .int _ _ _ (by rw [ZB_eq] at *; omega)
  | str k n s h h2 => intro k' n' _ hn; exact .str _ _ _ (by omega) h2
  | tup k n ds h h2 ih => intro k' n' hk hn; obtain ⟨j, rfl⟩ : ∃ j, k' = j + 1 := ⟨k' - 1, by omega⟩; exact .tup _ _ _ (by omega) fun d hd => ih d hd (by omega) hn
  | lst k n ds h h2 ih => intro k' n' hk hn; obtain ⟨j, rfl⟩ : ∃ j, k' = j + 1 := ⟨k' - 1, by omega⟩; exact .lst _ _ _ (by omega) fun d hd => ih d hd (by omega) hn
theorem Vb.pl {k n : Nat} {d : D} (h : Vb k n d) : ∀ {k' : Nat}, k ≤ k' → Pl k' d := by
  induction h with
  | non => intro k' _; exact ⟨by cases k' <;> rfl, rfl⟩
  | bl k n b => intro k' _; exact ⟨by cases k' <;> rfl, by show (b == b) = true; simp⟩
  | int => intros; exact pl_int _ _
  | str k n s h h2 => intros; exact pl_str _ _ (List.all_eq_true.mpr fun c hc => by have := h2 c hc; exact Nat.ble_eq_true_of_le (by omega))
  | tup k n ds h h2 ih => intro k' hk; obtain ⟨j, rfl⟩ : ∃ j, k' = j + 1 := ⟨k' - 1, by omega⟩; exact pl_tup fun d hd => ih d hd (by omega)
  | lst k n ds h h2 ih => intro k' hk; obtain ⟨j, rfl⟩ : ∃ j, k' = j + 1 := ⟨k' - 1, by omega⟩; exact pl_lst fun d hd => ih d hd (by omega)
theorem Vb.tup_inv {k n : Nat} {ds : List D} (h : Vb k n (.tup ds)) : ∀ d ∈ ds, Vb k n d := by
  cases h with
  | tup k n ds h h2 => exact fun d hd => (h2 d hd).up (Nat.le_succ _) (Nat.le_refl _)
theorem Vb.tup_len {k n : Nat} {ds : List D} (h : Vb k n (.tup ds)) : ds.length ≤ n := by cases h with | tup k n ds h h2 => exact h
/-! ### numbers from .. to -/
def iv : D → Int
  | .int i => i
  | _ => 0
def isFrom (d : D) (lo hi : Int) : Bool := match d with
  | .int x => decide (lo ≤ x) && decide (x ≤ hi)
  | _ => false
theorem isFrom_int {d : D} {lo hi : Int} (h : isFrom d lo hi = true) : ∃ x, d = .int x ∧ lo ≤ x ∧ x ≤ hi := by
  cases d with
  | int x =>
    simp only [isFrom, Bool.and_eq_true, decide_eq_true_eq] at h
    exact ⟨x, rfl, h.1, h.2⟩
  | _ => simp [isFrom] at h
def isI : D → Bool
  | .int _ => true
  | _ => false
theorem T_law_int : TT i_law_int = some d_law_int := rfl
theorem T_law_is_vessel : TT i_law_is_vessel = some d_law_is_vessel := rfl
theorem T_law_is_step : TT i_law_is_step = some d_law_is_step := rfl
theorem T_law_is_way : TT i_law_is_way = some d_law_is_way := rfl
theorem T_law_is_dirt : TT i_law_is_dirt = some d_law_is_dirt := rfl
theorem d_integer {k n : Nat} {d : D} (f : Nat) (g : Gs) (h : Vb k n d) : evF TT (f + 1) i_is_integer [d] g = .ok (.bl (isI d)) g := by
  cases h <;> first | exact ev_is_integer _ _ _ | rfl
theorem d_from {k n : Nat} {d : D} (f : Nat) (lo hi : Int) (g : Gs) (h : Vb k n d) : evF TT (f + 2) i_is_from [d, .int lo, .int hi] g = .ok (.bl (isFrom d lo hi)) g := by
  cases h <;> first | exact ev_is_from _ _ _ _ _ | rfl
theorem d_int {k n : Nat} {d : D} (f : Nat) (lo hi : Int) (g : Gs) (h : Vb k n d) : evF TT (f + 1) i_law_int [d, .int lo, .int hi] g = .ok (.bl (isFrom d lo hi)) g := by
  cases h with
  | int k n x h =>
    rw [evF_s T_law_int, runF_eq rfl]
    show outR (evSs (evF TT f) b_law_int [.p (.int x), .p (.int lo), .p (.int hi)] g) = _
    simp only [b_law_int, evSs_cons, evS_ret, evE_and, evE_bi, evEs_cons, evEs_nil, evE_var, getS_z, getS_s, slV_p, bind_ok, isint_i, of_some, iteD_bl, if_true, evE_not, isbool_i, notD_bl, Bool.not_false, evE_chain, op_le_i, chD_bl, isFrom]
    by_cases c : lo ≤ x
    · simp only [decide_eq_true c, if_true, to_ok, thenS_ret, outR_ret, Bool.true_and]
    · simp only [decide_eq_false c, Bool.false_eq_true, if_false, to_ok, thenS_ret, outR_ret, Bool.false_and]
  | _ => rfl
/-! ### vessels -/
def vesB : D → Bool
  | .tup [a, b, c] => isFrom a 2 12 && (isFrom b 1 (iv a - 1) && isFrom c (iv b) (iv a))
  | _ => false
theorem istup_d {k n : Nat} {d : D} (h : Vb k n d) : ∃ b : Bool, bi .istup [d] = some (.bl b) ∧ (b = true → ∃ ds, d = .tup ds) := by
  cases h with
  | tup k n ds => exact ⟨true, rfl, fun _ => ⟨_, rfl⟩⟩
  | _ => exact ⟨false, rfl, fun h => by cases h⟩
theorem len4 {a b c d : D} {ds : List D} : ¬ (((a :: b :: c :: d :: ds).length : Int) = 3) := by simp only [List.length_cons]; omega
theorem d_vessel {k n : Nat} {d : D} (f : Nat) (g : Gs) (h : Vb k n d) : evF TT (f + 3) i_is_vessel [d] g = .ok (.bl (vesB d)) g := by
  cases h with
  | tup k n ds hl h2 =>
    rw [evF_s T_is_vessel, runF_eq rfl]
    show outR (evSs (evF TT (f + 2)) b_is_vessel [.p (.tup ds)] g) = _
    have t1 : op2 .ne (.int (3 : Nat)) (.int 3) = some (.bl false) := rfl
    match ds, h2 with
    | [], _ => rfl
    | [a], _ => rfl
    | [a, b], _ => rfl
    | a :: b :: c :: d :: ds, _ =>
      simp only [b_is_vessel, evSs_cons, evSs_nil, evS_ite, evE_or, evE_not, evE_bi, evEs_cons, evEs_nil, evE_var, getS_z, slV_p, bind_ok, istup_t, of_some, notD_bl, Bool.not_true, iteD_bl, Bool.false_eq_true, if_false, evE_op, len_t, evE_lit, op_ne_i, decide_eq_false len4, Bool.not_false, if_true, to_ok, evS_ret, thenS_ret, outR_ret]
      rfl
    | [a, b, c], h2 =>
      have ha := d_from f 2 12 g (h2 a (by simp))
      have hl : bi .len [.tup [a, b, c]] = some (.int 3) := rfl
      cases ca : isFrom a 2 12 with
      | false =>
        rw [ca] at ha
        simp only [b_is_vessel, evSs_cons, evSs_nil, evS_ite, evE_or, evE_not, evE_bi, evEs_cons, evEs_nil, evE_var, getS_z, slV_p, bind_ok, istup_t, of_some, notD_bl, Bool.not_true, iteD_bl, Bool.false_eq_true, if_false, evE_op, hl, evE_lit, op_ne_i, decide_true, Bool.not_false, if_true, to_ok, evS_ret, thenS_ret, outR_ret, evE_call, evE_ix, ix_t0, ha, vesB, ca, Bool.false_and]
      | true =>
        obtain ⟨x, rfl, hx⟩ := isFrom_int ca
        rw [ca] at ha
        have hb := d_from f 1 (x - 1) g (h2 b (by simp))
        cases cb : isFrom b 1 (x - 1) with
        | false =>
          rw [cb] at hb
          simp only [b_is_vessel, evSs_cons, evSs_nil, evS_ite, evE_or, evE_and, evE_not, evE_bi, evEs_cons, evEs_nil, evE_var, getS_z, slV_p, bind_ok, istup_t, of_some, notD_bl, Bool.not_true, iteD_bl, Bool.false_eq_true, if_false, evE_op, hl, evE_lit, op_ne_i, decide_true, Bool.not_false, if_true, to_ok, evS_ret, thenS_ret, thenS_nx, outR_ret, evE_call, evE_ix, ix_t0, ix_t1, ix_t2, op_sub_i, ha, hb, vesB, ca, cb, iv, Bool.false_and, Bool.true_and]
        | true =>
          obtain ⟨y, rfl, hy⟩ := isFrom_int cb
          rw [cb] at hb
          have hc := d_from f y x g (h2 c (by simp))
          simp only [b_is_vessel, evSs_cons, evSs_nil, evS_ite, evE_or, evE_and, evE_not, evE_bi, evEs_cons, evEs_nil, evE_var, getS_z, slV_p, bind_ok, istup_t, of_some, notD_bl, Bool.not_true, iteD_bl, Bool.false_eq_true, if_false, evE_op, hl, evE_lit, op_ne_i, decide_true, Bool.not_false, if_true, to_ok, evS_ret, thenS_ret, thenS_nx, outR_ret, evE_call, evE_ix, ix_t0, ix_t1, ix_t2, op_sub_i, ha, hb, hc, vesB, ca, cb, iv, Bool.false_and, Bool.true_and]
  | _ => rfl
theorem d_law_vessel {k n : Nat} {d : D} (f : Nat) (g : Gs) (h : Vb k n d) : evF TT (f + 2) i_law_is_vessel [d] g = .ok (.bl (vesB d)) g := by
  cases h with
  | tup k n ds hl h2 =>
    rw [evF_s T_law_is_vessel, runF_eq rfl]
    show outR (evSs (evF TT (f + 1)) b_law_is_vessel [.p (.tup ds)] g) = _
    have t1 : op2 .ne (.int (3 : Nat)) (.int 3) = some (.bl false) := rfl
    match ds, h2 with
    | [], _ => rfl
    | [a], _ => rfl
    | [a, b], _ => rfl
    | a :: b :: c :: d :: ds, _ =>
      simp only [b_law_is_vessel, evSs_cons, evSs_nil, evS_ite, evE_or, evE_not, evE_bi, evEs_cons, evEs_nil, evE_var, getS_z, slV_p, bind_ok, istup_t, of_some, notD_bl, Bool.not_true, iteD_bl, Bool.false_eq_true, if_false, evE_op, len_t, evE_lit, op_ne_i, decide_eq_false len4, Bool.not_false, if_true, to_ok, evS_ret, thenS_ret, outR_ret]
      rfl
    | [a, b, c], h2 =>
      have ha := d_int f 2 12 g (h2 a (by simp))
      have hl : bi .len [.tup [a, b, c]] = some (.int 3) := rfl
      cases ca : isFrom a 2 12 with
      | false =>
        rw [ca] at ha
        simp only [b_law_is_vessel, evSs_cons, evSs_nil, evS_ite, evE_or, evE_not, evE_bi, evEs_cons, evEs_nil, evE_var, getS_z, slV_p, bind_ok, istup_t, of_some, notD_bl, Bool.not_true, iteD_bl, Bool.false_eq_true, if_false, evE_op, hl, evE_lit, op_ne_i, decide_true, Bool.not_false, if_true, to_ok, evS_ret, thenS_ret, outR_ret, evE_call, evE_ix, ix_t0, ha, vesB, ca, Bool.false_and]
      | true =>
        obtain ⟨x, rfl, hx⟩ := isFrom_int ca
        rw [ca] at ha
        have hb := d_int f 1 (x - 1) g (h2 b (by simp))
        cases cb : isFrom b 1 (x - 1) with
        | false =>
          rw [cb] at hb
          simp only [b_law_is_vessel, evSs_cons, evSs_nil, evS_ite, evE_or, evE_and, evE_not, evE_bi, evEs_cons, evEs_nil, evE_var, getS_z, slV_p, bind_ok, istup_t, of_some, notD_bl, Bool.not_true, iteD_bl, Bool.false_eq_true, if_false, evE_op, hl, evE_lit, op_ne_i, decide_true, Bool.not_false, if_true, to_ok, evS_ret, thenS_ret, thenS_nx, outR_ret, evE_call, evE_ix, ix_t0, ix_t1, ix_t2, op_sub_i, ha, hb, vesB, ca, cb, iv, Bool.false_and, Bool.true_and]
        | true =>
          obtain ⟨y, rfl, hy⟩ := isFrom_int cb
          rw [cb] at hb
          have hc := d_int f y x g (h2 c (by simp))
          simp only [b_law_is_vessel, evSs_cons, evSs_nil, evS_ite, evE_or, evE_and, evE_not, evE_bi, evEs_cons, evEs_nil, evE_var, getS_z, slV_p, bind_ok, istup_t, of_some, notD_bl, Bool.not_true, iteD_bl, Bool.false_eq_true, if_false, evE_op, hl, evE_lit, op_ne_i, decide_true, Bool.not_false, if_true, to_ok, evS_ret, thenS_ret, thenS_nx, outR_ret, evE_call, evE_ix, ix_t0, ix_t1, ix_t2, op_sub_i, ha, hb, hc, vesB, ca, cb, iv, Bool.false_and, Bool.true_and]
  | _ => rfl
/-- tuples that are vessels -/
theorem ves_inv {d : D} (h : vesB d = true) : ∃ r f b : Int, d = .tup [.int r, .int f, .int b] ∧ 2 ≤ r ∧ r ≤ 12 ∧ 1 ≤ f ∧ f ≤ r - 1 ∧ f ≤ b ∧ b ≤ r := by
  unfold vesB at h
  split at h
  · simp only [Bool.and_eq_true] at h
    obtain ⟨ha, hb, hc⟩ := h
    obtain ⟨x, rfl, a1, a2⟩ := isFrom_int ha
    obtain ⟨y, rfl, b1, b2⟩ := isFrom_int hb
    obtain ⟨z, rfl, c1, c2⟩ := isFrom_int hc
    exact ⟨x, y, z, rfl, a1, a2, b1, b2, c1, c2⟩
  · cases h
theorem ves_all : ∀ (vs : List D), vs.all vesB = true → ∃ V : Ves, D.tup vs = vsD vs.length V ∧ ∀ i, i < vs.length → VOk V i := by
  intro vs h
  refine ⟨⟨fun i => iv ((match vs[i]? with | some (.tup l) => l[0]? | _ => none).getD .non), fun i => iv ((match vs[i]? with | some (.tup l) => l[1]? | _ => none).getD .non), fun i => iv ((match vs[i]? with | some (.tup l) => l[2]? | _ => none).getD .non)⟩, ?_, ?_⟩
  · unfold vsD tf
    congr 1
    apply List.ext_getElem (by simp)
    intro i h1 h2
    obtain ⟨r, f, b, e, _⟩ := ves_inv (List.all_eq_true.mp h vs[i] (List.getElem_mem h1))
    rw [List.getElem_map, List.getElem_range]
    unfold encV
    simp only [List.getElem?_eq_getElem h1, e]
    rfl
  · intro i hi
    obtain ⟨r, f, b, e, h1⟩ := ves_inv (List.all_eq_true.mp h vs[i] (List.getElem_mem hi))
    exact ⟨by simp only [List.getElem?_eq_getElem hi, e]; exact h1.1, by simp only [List.getElem?_eq_getElem hi, e]; exact h1.2.1, by simp only [List.getElem?_eq_getElem hi, e]; exact h1.2.2.1, by simp only [List.getElem?_eq_getElem hi, e]; exact h1.2.2.2.1, by simp only [List.getElem?_eq_getElem hi, e]; exact h1.2.2.2.2.1, by simp only [List.getElem?_eq_getElem hi, e]; exact h1.2.2.2.2.2⟩
end Rz
/-! RzG55 -/
set_option linter.all false
set_option maxRecDepth 100000
set_option exponentiation.threshold 20000
namespace Rz
/-! ### k01: steps -/
abbrev zT : List Nat := [116, 105, 112]
abbrev zF : List Nat := [102, 105, 108, 108]
abbrev zP : List Nat := [112, 111, 117, 114]
def stT (n : Nat) : List D → Bool
  | [a] => isFrom a 0 ((n : Int) - 1)
  | _ => false
def stF (n : Nat) : List D → Bool
  | [a, z] => isFrom a 0 ((n : Int) - 1) && isFrom z 1 12
  | _ => false
def stP (n : Nat) : List D → Bool
  | [a, b, z] => isFrom z 1 12 && (isFrom a 0 ((n : Int) - 1) && (isFrom b 0 ((n : Int) - 1) && !decide (iv a = iv b)))
  | _ => false
def stOk (n : Nat) : D → Bool
  | .tup (.str s :: r) => if s = zT then stT n r else if s = zF then stF n r else if s = zP then stP n r else false
  | _ => false
theorem stOk_str (n : Nat) (s : List Nat) (r : List D) : stOk n (.tup (.str s :: r)) = if s = zT then stT n r else if s = zF then stF n r else if s = zP then stP n r else false := rfl
theorem eq_str {s t : List Nat} (hs : ∀ c ∈ s, c < 128) (ht : ∀ c ∈ t, c < 128) : op2 .eq (.str s) (.str t) = some (.bl (decide (s = t))) := by
  have p : ∀ s : List Nat, (∀ c ∈ s, c < 128) → D.shp 60 (.str s) = true := fun s hs => (Vb.str 0 s.length s (Nat.le_refl _) hs).pl (k' := 60) (by omega) |>.shp
  show (if shp2 (.str s) (.str t) = true then some (D.bl (s == t)) else none) = _
  rw [if_pos (by unfold shp2; rw [p s hs, p t ht]; rfl)]
  congr 2
  rw [Bool.eq_iff_iff, beq_iff_eq, decide_eq_true_iff]
theorem ne_str {s t : List Nat} (hs : ∀ c ∈ s, c < 128) (ht : ∀ c ∈ t, c < 128) : op2 .ne (.str s) (.str t) = some (.bl (!decide (s = t))) := by
  have e := eq_str hs ht
  have e' : (if shp2 (.str s) (.str t) = true then some (D.bl (D.eqv (.str s) (.str t))) else none) = some (.bl (decide (s = t))) := e
  show (if shp2 (.str s) (.str t) = true then some (D.bl (!D.eqv (.str s) (.str t))) else none) = _
  by_cases c : shp2 (.str s) (.str t) = true
  · rw [if_pos c] at e' ⊢
    have := Option.some.inj e'
    have := D.bl.inj this
    rw [this]
  · rw [if_neg c] at e'; cases e'
theorem zT_lt : ∀ c ∈ zT, c < 128 := by decide
theorem zF_lt : ∀ c ∈ zF, c < 128 := by decide
theorem zP_lt : ∀ c ∈ zP, c < 128 := by decide
theorem isstr_d {k n : Nat} {d : D} (h : Vb k n d) : ∃ b : Bool, bi .isstr [d] = some (.bl b) ∧ (b = true → ∃ s, d = .str s ∧ ∀ c ∈ s, c < 128) ∧ (b = false → ∀ s, d ≠ .str s) := by
  cases h with
  | str k n s h h2 => exact ⟨true, rfl, fun _ => ⟨_, rfl, h2⟩, fun h => by cases h⟩
  | _ => exact ⟨false, rfl, fun h => (by cases h), fun _ s h => by cases h⟩
theorem d_step {k n : Nat} {d : D} (f w : Nat) (g : Gs) (hk : k ≤ 60) (h : Vb k n d) : evF TT (f + 3) i_is_step [.int (w : Int), d] g = .ok (.bl (stOk w d)) g := by
  cases h with
  | tup k n ds hl h2 =>
    rw [evF_s T_is_step, runF_eq rfl]
    show outR (evSs (evF TT (f + 2)) b_is_step [.p (.int (w : Int)), .p (.tup ds)] g) = _
    match ds, hl, h2 with
    | [], _, _ => rfl
    | a :: r, hl, h2 =>
      have e0 := eq_cons_nil a r ((Vb.tup k n _ hl h2).pl hk).shp
      obtain ⟨b, ib, it, iF⟩ := isstr_d (h2 a (by simp))
      cases b with
      | false =>
        have : stOk w (.tup (a :: r)) = false := by
          cases a with
          | str s => exact absurd rfl (iF rfl s)
          | _ => rfl
        rw [this]
        simp only [b_is_step, evSs_cons, evSs_nil, evS_ite, evE_or, evE_not, evE_bi, evEs_cons, evEs_nil, evE_var, evE_tup, getS_z, getS_s, slV_p, bind_ok, istup_t, of_some, notD_bl, Bool.not_true, iteD_bl, Bool.false_eq_true, if_false, evE_op, e0, evE_ix, evE_lit, ix_t0, ib, Bool.not_false, if_true, to_ok, evS_ret, thenS_ret, outR_ret]
      | true =>
        obtain ⟨s, rfl, hs⟩ := it rfl
        have q1 := eq_str hs zT_lt
        have q2 := eq_str hs zF_lt
        have q3 := ne_str hs zP_lt
        have fa : ∀ d ∈ r, ∀ lo hi : Int, evF TT (f + 2) i_is_from [d, .int lo, .int hi] g = .ok (.bl (isFrom d lo hi)) g := fun d hd lo hi => d_from f lo hi g (h2 d (by simp [hd]))
        by_cases c1 : s = zT
        · subst c1
          have S : stOk w (.tup (.str zT :: r)) = stT w r := (stOk_str _ _ _).trans (if_pos rfl)
          rw [S]
          rw [decide_eq_true rfl] at q1
          match r, fa with
          | [], _ => simp only [b_is_step, evSs_cons, evSs_nil, evS_ite, evE_or, evE_and, evE_not, evE_bi, evEs_cons, evEs_nil, evE_var, evE_tup, evE_glo, getS_z, getS_s, slV_p, bind_ok, istup_t, of_some, notD_bl, Bool.not_true, iteD_bl, Bool.false_eq_true, if_false, evE_op, e0, evE_ix, evE_lit, ix_t0, ib, if_true, to_ok, evS_ret, thenS_ret, thenS_nx, outR_ret, q1, stT, len_t]; rfl
          | [a], fa =>
            have hl : op2 .eq (.int ([.str zT, a].length : Nat)) (.int 2) = some (.bl true) := rfl
            have := fa a (by simp) 0 ((w : Int) - 1)
            simp only [b_is_step, evSs_cons, evSs_nil, evS_ite, evE_or, evE_and, evE_not, evE_bi, evEs_cons, evEs_nil, evE_var, evE_tup, evE_glo, evE_call, getS_z, getS_s, slV_p, bind_ok, istup_t, of_some, notD_bl, Bool.not_true, iteD_bl, Bool.false_eq_true, if_false, evE_op, e0, evE_ix, evE_lit, ix_t0, ix_t1, ib, if_true, to_ok, evS_ret, thenS_ret, thenS_nx, outR_ret, q1, stT, len_t, hl, op_sub_i, this]
          | a :: b :: l, _ =>
            have : ¬ (((D.str zT :: a :: b :: l).length : Int) = 2) := by simp only [List.length_cons]; omega
            simp only [b_is_step, evSs_cons, evSs_nil, evS_ite, evE_or, evE_and, evE_not, evE_bi, evEs_cons, evEs_nil, evE_var, evE_tup, evE_glo, getS_z, getS_s, slV_p, bind_ok, istup_t, of_some, notD_bl, Bool.not_true, iteD_bl, Bool.false_eq_true, if_false, evE_op, e0, evE_ix, evE_lit, ix_t0, ib, if_true, to_ok, evS_ret, thenS_ret, thenS_nx, outR_ret, q1, stT, len_t, op_eq_i, decide_eq_false this]
        rw [decide_eq_false c1] at q1
        by_cases c2 : s = zF
        · subst c2
          have S : stOk w (.tup (.str zF :: r)) = stF w r := (stOk_str _ _ _).trans <| (if_neg c1).trans (if_pos rfl)
          rw [S]
          rw [decide_eq_true rfl] at q2
          match r, fa with
          | [], _ => simp only [b_is_step, evSs_cons, evSs_nil, evS_ite, evE_or, evE_and, evE_not, evE_bi, evEs_cons, evEs_nil, evE_var, evE_tup, evE_glo, getS_z, getS_s, slV_p, bind_ok, istup_t, of_some, notD_bl, Bool.not_true, iteD_bl, Bool.false_eq_true, if_false, evE_op, e0, evE_ix, evE_lit, ix_t0, ib, if_true, to_ok, evS_ret, thenS_ret, thenS_nx, outR_ret, q1, q2, stF, len_t]; rfl
          | [_], _ => simp only [b_is_step, evSs_cons, evSs_nil, evS_ite, evE_or, evE_and, evE_not, evE_bi, evEs_cons, evEs_nil, evE_var, evE_tup, evE_glo, getS_z, getS_s, slV_p, bind_ok, istup_t, of_some, notD_bl, Bool.not_true, iteD_bl, Bool.false_eq_true, if_false, evE_op, e0, evE_ix, evE_lit, ix_t0, ib, if_true, to_ok, evS_ret, thenS_ret, thenS_nx, outR_ret, q1, q2, stF, len_t]; rfl
          | [a, z], fa =>
            have hl : op2 .eq (.int ([.str zF, a, z].length : Nat)) (.int 3) = some (.bl true) := rfl
            have f1 := fa a (by simp) 0 ((w : Int) - 1)
            have f2 := fa z (by simp) 1 12
            cases ca : isFrom a 0 ((w : Int) - 1) <;> rw [ca] at f1 <;>
            simp only [b_is_step, evSs_cons, evSs_nil, evS_ite, evE_or, evE_and, evE_not, evE_bi, evEs_cons, evEs_nil, evE_var, evE_tup, evE_glo, evE_call, getS_z, getS_s, slV_p, bind_ok, istup_t, of_some, notD_bl, Bool.not_true, iteD_bl, Bool.false_eq_true, if_false, evE_op, e0, evE_ix, evE_lit, ix_t0, ix_t1, ix_t2, ib, if_true, to_ok, evS_ret, thenS_ret, thenS_nx, outR_ret, q1, q2, stF, len_t, hl, op_sub_i, f1, f2, ca, Bool.true_and, Bool.false_and]
          | a :: b :: c :: l, _ =>
            have : ¬ (((D.str zF :: a :: b :: c :: l).length : Int) = 3) := by simp only [List.length_cons]; omega
            simp only [b_is_step, evSs_cons, evSs_nil, evS_ite, evE_or, evE_and, evE_not, evE_bi, evEs_cons, evEs_nil, evE_var, evE_tup, evE_glo, getS_z, getS_s, slV_p, bind_ok, istup_t, of_some, notD_bl, Bool.not_true, iteD_bl, Bool.false_eq_true, if_false, evE_op, e0, evE_ix, evE_lit, ix_t0, ib, if_true, to_ok, evS_ret, thenS_ret, thenS_nx, outR_ret, q1, q2, stF, len_t, op_eq_i, decide_eq_false this]
        rw [decide_eq_false c2] at q2
        by_cases c3 : s = zP
        · subst c3
          have S : stOk w (.tup (.str zP :: r)) = stP w r := (stOk_str _ _ _).trans <| (if_neg c1).trans ((if_neg c2).trans (if_pos rfl))
          rw [S]
          rw [decide_eq_true rfl] at q3
          match r, fa with
          | [], _ => simp only [b_is_step, evSs_cons, evSs_nil, evS_ite, evE_or, evE_and, evE_not, evE_bi, evEs_cons, evEs_nil, evE_var, evE_tup, evE_glo, getS_z, getS_s, slV_p, bind_ok, istup_t, of_some, notD_bl, Bool.not_true, iteD_bl, Bool.false_eq_true, if_false, evE_op, e0, evE_ix, evE_lit, ix_t0, ib, if_true, to_ok, evS_ret, thenS_ret, thenS_nx, outR_ret, q1, q2, q3, stP, len_t]; rfl
          | [_], _ => simp only [b_is_step, evSs_cons, evSs_nil, evS_ite, evE_or, evE_and, evE_not, evE_bi, evEs_cons, evEs_nil, evE_var, evE_tup, evE_glo, getS_z, getS_s, slV_p, bind_ok, istup_t, of_some, notD_bl, Bool.not_true, iteD_bl, Bool.false_eq_true, if_false, evE_op, e0, evE_ix, evE_lit, ix_t0, ib, if_true, to_ok, evS_ret, thenS_ret, thenS_nx, outR_ret, q1, q2, q3, stP, len_t]; rfl
          | [_, _], _ => simp only [b_is_step, evSs_cons, evSs_nil, evS_ite, evE_or, evE_and, evE_not, evE_bi, evEs_cons, evEs_nil, evE_var, evE_tup, evE_glo, getS_z, getS_s, slV_p, bind_ok, istup_t, of_some, notD_bl, Bool.not_true, iteD_bl, Bool.false_eq_true, if_false, evE_op, e0, evE_ix, evE_lit, ix_t0, ib, if_true, to_ok, evS_ret, thenS_ret, thenS_nx, outR_ret, q1, q2, q3, stP, len_t]; rfl
          | [a, b, z], fa =>
            have hl : op2 .ne (.int ([.str zP, a, b, z].length : Nat)) (.int 4) = some (.bl false) := rfl
            have f1 := fa a (by simp) 0 ((w : Int) - 1)
            have f2 := fa b (by simp) 0 ((w : Int) - 1)
            have f3 := fa z (by simp) 1 12
            cases cz : isFrom z 1 12 with
            | false =>
              rw [cz] at f3
              simp only [b_is_step, evSs_cons, evSs_nil, evS_ite, evE_or, evE_and, evE_not, evE_bi, evEs_cons, evEs_nil, evE_var, evE_tup, evE_glo, evE_call, getS_z, getS_s, slV_p, bind_ok, istup_t, of_some, notD_bl, Bool.not_true, Bool.not_false, iteD_bl, Bool.false_eq_true, if_false, evE_op, e0, evE_ix, evE_lit, ix_t0, ix_t1, ix_t2, ix_t3, ib, if_true, to_ok, evS_ret, thenS_ret, thenS_nx, outR_ret, q1, q2, q3, stP, len_t, hl, f3, cz, Bool.false_and]
            | true =>
              rw [cz] at f3
              cases ca : isFrom a 0 ((w : Int) - 1) with
              | false =>
                rw [ca] at f1
                simp only [b_is_step, evSs_cons, evSs_nil, evS_ite, evE_or, evE_and, evE_not, evE_bi, evEs_cons, evEs_nil, evE_var, evE_tup, evE_glo, evE_call, getS_z, getS_s, slV_p, bind_ok, istup_t, of_some, notD_bl, Bool.not_true, Bool.not_false, iteD_bl, Bool.false_eq_true, if_false, evE_op, e0, evE_ix, evE_lit, ix_t0, ix_t1, ix_t2, ix_t3, ib, if_true, to_ok, evS_ret, thenS_ret, thenS_nx, outR_ret, q1, q2, q3, stP, len_t, hl, f3, op_sub_i, f1, cz, ca, Bool.false_and, Bool.true_and]
              | true =>
                rw [ca] at f1
                obtain ⟨x, rfl, _⟩ := isFrom_int ca
                cases cb : isFrom b 0 ((w : Int) - 1) with
                | false =>
                  rw [cb] at f2
                  simp only [b_is_step, evSs_cons, evSs_nil, evS_ite, evE_or, evE_and, evE_not, evE_bi, evEs_cons, evEs_nil, evE_var, evE_tup, evE_glo, evE_call, getS_z, getS_s, slV_p, bind_ok, istup_t, of_some, notD_bl, Bool.not_true, Bool.not_false, iteD_bl, Bool.false_eq_true, if_false, evE_op, e0, evE_ix, evE_lit, ix_t0, ix_t1, ix_t2, ix_t3, ib, if_true, to_ok, evS_ret, thenS_ret, thenS_nx, outR_ret, q1, q2, q3, stP, len_t, hl, f3, op_sub_i, f1, f2, cz, ca, cb, Bool.false_and, Bool.true_and]
                | true =>
                  rw [cb] at f2
                  obtain ⟨y, rfl, _⟩ := isFrom_int cb
                  simp only [b_is_step, evSs_cons, evSs_nil, evS_ite, evE_or, evE_and, evE_not, evE_bi, evEs_cons, evEs_nil, evE_var, evE_tup, evE_glo, evE_call, getS_z, getS_s, slV_p, bind_ok, istup_t, of_some, notD_bl, Bool.not_true, Bool.not_false, iteD_bl, Bool.false_eq_true, if_false, evE_op, e0, evE_ix, evE_lit, ix_t0, ix_t1, ix_t2, ix_t3, ib, if_true, to_ok, evS_ret, thenS_ret, thenS_nx, outR_ret, q1, q2, q3, stP, len_t, hl, f3, op_sub_i, f1, f2, op_ne_i, cz, ca, cb, Bool.true_and, iv]
                  rfl
          | a :: b :: c :: d :: l, _ =>
            have : ¬ (((D.str zP :: a :: b :: c :: d :: l).length : Int) = 4) := by simp only [List.length_cons]; omega
            simp only [b_is_step, evSs_cons, evSs_nil, evS_ite, evE_or, evE_and, evE_not, evE_bi, evEs_cons, evEs_nil, evE_var, evE_tup, evE_glo, getS_z, getS_s, slV_p, bind_ok, istup_t, of_some, notD_bl, Bool.not_true, Bool.not_false, iteD_bl, Bool.false_eq_true, if_false, evE_op, e0, evE_ix, evE_lit, ix_t0, ib, if_true, to_ok, evS_ret, thenS_ret, thenS_nx, outR_ret, q1, q2, q3, stP, len_t, op_ne_i, decide_eq_false this]
        · have S : stOk w (.tup (.str s :: r)) = false := (stOk_str _ _ _).trans <| (if_neg c1).trans ((if_neg c2).trans (if_neg c3))
          rw [S]
          rw [decide_eq_false c3] at q3
          simp only [b_is_step, evSs_cons, evSs_nil, evS_ite, evE_or, evE_and, evE_not, evE_bi, evEs_cons, evEs_nil, evE_var, evE_tup, evE_glo, getS_z, getS_s, slV_p, bind_ok, istup_t, of_some, notD_bl, Bool.not_true, Bool.not_false, iteD_bl, Bool.false_eq_true, if_false, evE_op, e0, evE_ix, evE_lit, ix_t0, ib, if_true, to_ok, evS_ret, thenS_ret, thenS_nx, outR_ret, q1, q2, q3]
  | _ => rfl
end Rz
/-! RzG56 -/
set_option linter.all false
set_option maxRecDepth 100000
set_option exponentiation.threshold 20000
namespace Rz
/-! ### k01: steps as the law looks at them -/
theorem notin_234 (m : Int) : op2 .notin (.int m) (.lst [.int 2, .int 3, .int 4]) = some (.bl (!(decide (m = 2) || (decide (m = 3) || decide (m = 4))))) := by
  show some (D.bl (!(((2 : Int) == m) || (((3 : Int) == m) || (((4 : Int) == m) || false))))) = _
  have e : ∀ a : Int, (a == m) = decide (m = a) := fun a => by
    rw [Bool.eq_iff_iff, beq_iff_eq, decide_eq_true_iff]; exact ⟨Eq.symm, Eq.symm⟩
  rw [e, e, e, Bool.or_false]
theorem notin_str {s : List Nat} (hs : ∀ c ∈ s, c < 128) : op2 .notin (.str s) (.lst [.str zT, .str zF, .str zP]) = some (.bl (!(decide (s = zT) || (decide (s = zF) || decide (s = zP))))) := by
  have p : D.shp 60 (.str s) = true := ((Vb.str 0 s.length s (Nat.le_refl _) hs).pl (k' := 60) (by omega)).shp
  show (if shp2 (.str s) (.lst [.str zT, .str zF, .str zP]) = true then some (D.bl (!((zT == s) || ((zF == s) || ((zP == s) || false))))) else none) = _
  have e : ∀ a : List Nat, (a == s) = decide (s = a) := fun a => by
    rw [Bool.eq_iff_iff, beq_iff_eq, decide_eq_true_iff]; exact ⟨Eq.symm, Eq.symm⟩
  rw [if_pos (by unfold shp2; rw [p]; rfl), e, e, e, Bool.or_false]
def zD : D := .dic [.str zT, .str zF, .str zP] [.int 2, .int 3, .int 4]
theorem zD_eq {C : Nat → List D → Gs → R D} {env : Env} {g : Gs} : evE C (.dic [.lit (.str [116, 105, 112]), .lit (.int 2), .lit (.str [102, 105, 108, 108]), .lit (.int 3), .lit (.str [112, 111, 117, 114]), .lit (.int 4)] []) env g = .ok zD g := nr rfl
theorem zD_T (g : Gs) : ixD g zD (.str zT) = some (.int 2) := rfl
theorem zD_F (g : Gs) : ixD g zD (.str zF) = some (.int 3) := rfl
theorem zD_P (g : Gs) : ixD g zD (.str zP) = some (.int 4) := rfl
theorem ne_nil (ds : List D) (h : ∀ d ∈ ds, Pl 59 d) : op2 .ne (.lst ds) (.lst []) = some (.bl (!ds.isEmpty)) := by
  show (if shp2 (.lst ds) (.lst []) = true then some (D.bl (!D.eqvs ds [])) else none) = _
  have p := (pl_lst h).shp
  rw [if_pos (by unfold shp2; rw [p]; rfl)]
  cases ds <;> rfl
/-- the law's look at some spots -/
theorem d_spots {k n : Nat} (f w : Nat) (g : Gs) (ds : List D) (h : ∀ d ∈ ds, Vb k n d) (hl : ds.length ≤ 100) (e0 e1 e2 e3 : Sl) (h1 : e1 = .p (.int (w : Int))) :
    compD (evF TT (f + 1)) (.var 3) (.nm 3) [.not (.call i_law_int [.var 3, .lit (.int 0), .op .sub (.var 1) (.lit (.int 1))])] [e0, e1, e2, e3] g (some ds) = .ok (.lst (ds.filter fun d => !isFrom d 0 ((w : Int) - 1))) g := by
  subst h1
  have := compD_f (C := evF TT (f + 1)) (env := [e0, .p (.int (w : Int)), e2, e3]) (g := g) (e := .var 3) (cnd := .not (.call i_law_int [.var 3, .lit (.int 0), .op .sub (.var 1) (.lit (.int 1))])) (t := .nm 3) ds (fun d => d) (fun d => !isFrom d 0 ((w : Int) - 1)) (fun d => d) (by omega) fun d hd => ⟨[e0, .p (.int (w : Int)), e2, .p d], rfl, by
    have q := d_int f 0 ((w : Int) - 1) g (h d hd)
    simp only [evE_not, evE_call, evEs_cons, evEs_nil, evE_var, evE_op, evE_lit, getS_z, getS_s, slV_p, bind_ok, op_sub_i, of_some, q, notD_bl], fun _ => rfl⟩
  rw [List.map_id', List.map_id'] at this
  exact this
theorem filt_nil {α : Type} (p : α → Bool) (l : List α) : (!(l.filter fun d => !p d).isEmpty) = !l.all p := by
  congr 1
  rw [Bool.eq_iff_iff, List.isEmpty_iff, List.filter_eq_nil_iff, List.all_eq_true]
  constructor
  · intro h x hx
    have := h x hx
    simpa using this
  · intro h x hx
    simp [h x hx]
theorem dv_law_step {k n : Nat} {d : D} (f w : Nat) (g : Gs) (hk : k ≤ 60) (h : Vb k n d) : evF TT (f + 2) i_law_is_step [d, .int (w : Int)] g = .ok (.bl (stOk w d)) g := by
  cases h with
  | tup k n ds hl h2 =>
    rw [evF_s T_law_is_step, runF_eq rfl]
    show outR (evSs (evF TT (f + 1)) b_law_is_step [.p (.tup ds), .p (.int (w : Int)), .u, .u] g) = _
    match ds, hl, h2 with
    | [], _, _ => rfl
    | a :: r, hl, h2 =>
      have vr : ∀ d ∈ r, Vb k n d := fun d hd => h2 d (by simp [hd])
      have pr : ∀ d ∈ r, Pl 59 d := fun d hd => (vr d hd).pl (by omega)
      have pf : ∀ (p : D → Bool) (l : List D), (∀ d ∈ l, Pl 59 d) → ∀ d ∈ l.filter p, Pl 59 d := fun p l h d hd => h d (List.mem_filter.mp hd).1
      obtain ⟨b, ib, it, iF⟩ := isstr_d (h2 a (by simp))
      have nl := notin_234 ((a :: r).length : Int)
      cases b with
      | false =>
        have : stOk w (.tup (a :: r)) = false := by
          cases a with
          | str s => exact absurd rfl (iF rfl s)
          | _ => rfl
        rw [this]
        cases c : (decide (((a :: r).length : Int) = 2) || (decide (((a :: r).length : Int) = 3) || decide (((a :: r).length : Int) = 4))) <;> rw [c] at nl <;>
        simp only [b_law_is_step, evSs_cons, evSs_nil, evS_ite, evE_or, evE_not, evE_bi, evEs_cons, evEs_nil, evE_var, evE_lst, evE_lit, getS_z, getS_s, slV_p, bind_ok, istup_t, of_some, notD_bl, Bool.not_true, iteD_bl, Bool.false_eq_true, if_false, evE_op, len_t, nl, Bool.not_false, if_true, evE_ix, ix_t0, ib, to_ok, evS_ret, thenS_ret, outR_ret]
      | true =>
        obtain ⟨s, rfl, hs⟩ := it rfl
        have qn := notin_str hs
        have f1 : ∀ d ∈ r, ∀ lo hi : Int, evF TT (f + 1) i_law_int [d, .int lo, .int hi] g = .ok (.bl (isFrom d lo hi)) g := fun d hd lo hi => d_int f lo hi g (vr d hd)
        by_cases c1 : s = zT
        · subst c1
          have S : stOk w (.tup (.str zT :: r)) = stT w r := (stOk_str _ _ _).trans (if_pos rfl)
          have n1 : op2 .ne (.str zT) (.str zT) = some (.bl false) := rfl
          have n2 : op2 .ne (.str zT) (.str zP) = some (.bl true) := rfl
          have q : op2 .notin (.str zT) (.lst [.str zT, .str zF, .str zP]) = some (.bl false) := rfl
          rw [S]
          match r, vr, pr, nl with
          | [], _, _, _ => rfl
          | [x], vr, pr, nl =>
            have nl : op2 .notin (.int ([.str zT, x].length : Nat)) (.lst [.int 2, .int 3, .int 4]) = some (.bl false) := rfl
            have l2 : op2 .ne (.int ([.str zT, x].length : Nat)) (.int 2) = some (.bl false) := rfl
            have sl : slD .both (.tup [.str zT, x]) [.int 1, .int (([.str zT, x].length : Nat) - 0)] = some (.tup [x]) := rfl
            have it : items .seq [.tup [x]] = some [x] := rfl
            have sp := d_spots f w g [x] vr (by simp) (.p (.tup [.str zT, x])) (.p (.int (w : Int))) (.p (.tup [x])) .u rfl
            have nn := ne_nil _ (pf (fun d => !isFrom d 0 ((w : Int) - 1)) [x] pr)
            rw [filt_nil (fun d => isFrom d 0 ((w : Int) - 1))] at nn
            simp only [List.all_cons, List.all_nil, Bool.and_true] at nn
            cases cx : isFrom x 0 ((w : Int) - 1) <;> rw [cx] at nn <;>
            simp only [b_law_is_step, evSs_cons, evSs_nil, evS_ite, evS_asg, evE_or, evE_and, evE_not, evE_bi, evEs_cons, evEs_nil, evIs_cons, evIs_nil, toI_int, evE_var, evE_lst, evE_lit, evE_sl, evE_comp, zD_eq, zD_T, getS_z, getS_s, setS_z, setS_s, slV_p, bind_ok, istup_t, of_some, notD_bl, Bool.not_true, Bool.not_false, iteD_bl, Bool.false_eq_true, if_false, evE_op, len_t, nl, if_true, evE_ix, ix_t0, ib, q, l2, n1, n2, bi_int_b, op_sub_i, sl, it, sp, nn, to_ok, evS_ret, thenS_ret, thenS_nx, outR_ret, stT, cx]
          | x :: y :: l, vr, pr, nl =>
            have : ¬ (((D.str zT :: x :: y :: l).length : Int) = 2) := by simp only [List.length_cons]; omega
            have st : stT w (x :: y :: l) = false := rfl
            cases c : (decide (((D.str zT :: x :: y :: l).length : Int) = 2) || (decide (((D.str zT :: x :: y :: l).length : Int) = 3) || decide (((D.str zT :: x :: y :: l).length : Int) = 4))) <;> rw [c] at nl <;>
            simp only [b_law_is_step, evSs_cons, evSs_nil, evS_ite, evE_or, evE_not, evE_bi, evEs_cons, evEs_nil, evE_var, evE_lst, evE_lit, zD_eq, zD_T, getS_z, getS_s, slV_p, bind_ok, istup_t, of_some, notD_bl, Bool.not_true, iteD_bl, Bool.false_eq_true, if_false, evE_op, len_t, nl, Bool.not_false, if_true, evE_ix, ix_t0, ib, q, op_ne_i, decide_eq_false this, to_ok, evS_ret, thenS_ret, thenS_nx, outR_ret, st]
        by_cases c2 : s = zF
        · subst c2
          have S : stOk w (.tup (.str zF :: r)) = stF w r := (stOk_str _ _ _).trans <| (if_neg c1).trans (if_pos rfl)
          have n1 : op2 .ne (.str zF) (.str zT) = some (.bl true) := rfl
          have n2 : op2 .ne (.str zF) (.str zP) = some (.bl true) := rfl
          have q : op2 .notin (.str zF) (.lst [.str zT, .str zF, .str zP]) = some (.bl false) := rfl
          rw [S]
          match r, vr, pr, nl, f1 with
          | [], _, _, _, _ => rfl
          | [_], _, _, _, _ => rfl
          | [x, z], vr, pr, nl, f1 =>
            have nl : op2 .notin (.int ([.str zF, x, z].length : Nat)) (.lst [.int 2, .int 3, .int 4]) = some (.bl false) := rfl
            have l2 : op2 .ne (.int ([.str zF, x, z].length : Nat)) (.int 3) = some (.bl false) := rfl
            have sl : slD .both (.tup [.str zF, x, z]) [.int 1, .int (([.str zF, x, z].length : Nat) - 1)] = some (.tup [x]) := rfl
            have it : items .seq [.tup [x]] = some [x] := rfl
            have lx : ixD g (.tup [.str zF, x, z]) (.int (-1)) = some z := rfl
            have sp := d_spots f w g [x] (fun d hd => vr d (by simp at hd; simp [hd])) (by simp) (.p (.tup [.str zF, x, z])) (.p (.int (w : Int))) (.p (.tup [x])) .u rfl
            have nn := ne_nil _ (pf (fun d => !isFrom d 0 ((w : Int) - 1)) [x] (fun d hd => pr d (by simp at hd; simp [hd])))
            rw [filt_nil (fun d => isFrom d 0 ((w : Int) - 1))] at nn
            simp only [List.all_cons, List.all_nil, Bool.and_true] at nn
            have fz := f1 z (by simp) 1 12
            cases cx : isFrom x 0 ((w : Int) - 1) <;> rw [cx] at nn <;> cases cz : isFrom z 1 12 <;> rw [cz] at fz <;>
            simp only [b_law_is_step, evSs_cons, evSs_nil, evS_ite, evS_asg, evE_or, evE_and, evE_not, evE_neg, negD_int, evE_bi, evE_call, evEs_cons, evEs_nil, evIs_cons, evIs_nil, toI_int, evE_var, evE_lst, evE_lit, evE_sl, evE_comp, zD_eq, zD_F, getS_z, getS_s, setS_z, setS_s, slV_p, bind_ok, istup_t, of_some, notD_bl, Bool.not_true, Bool.not_false, iteD_bl, Bool.false_eq_true, if_false, evE_op, len_t, nl, if_true, evE_ix, ix_t0, ib, q, l2, n1, n2, bi_int_b, op_sub_i, sl, it, sp, nn, lx, fz, to_ok, evS_ret, thenS_ret, thenS_nx, outR_ret, stF, cx, cz, Bool.true_and, Bool.false_and]
          | x :: y :: z :: l, vr, pr, nl, _ =>
            have : ¬ (((D.str zF :: x :: y :: z :: l).length : Int) = 3) := by simp only [List.length_cons]; omega
            have st : stF w (x :: y :: z :: l) = false := rfl
            cases c : (decide (((D.str zF :: x :: y :: z :: l).length : Int) = 2) || (decide (((D.str zF :: x :: y :: z :: l).length : Int) = 3) || decide (((D.str zF :: x :: y :: z :: l).length : Int) = 4))) <;> rw [c] at nl <;>
            simp only [b_law_is_step, evSs_cons, evSs_nil, evS_ite, evE_or, evE_not, evE_bi, evEs_cons, evEs_nil, evE_var, evE_lst, evE_lit, zD_eq, zD_F, getS_z, getS_s, slV_p, bind_ok, istup_t, of_some, notD_bl, Bool.not_true, iteD_bl, Bool.false_eq_true, if_false, evE_op, len_t, nl, Bool.not_false, if_true, evE_ix, ix_t0, ib, q, op_ne_i, decide_eq_false this, to_ok, evS_ret, thenS_ret, thenS_nx, outR_ret, st]
        by_cases c3 : s = zP
        · subst c3
          have S : stOk w (.tup (.str zP :: r)) = stP w r := (stOk_str _ _ _).trans <| (if_neg c1).trans ((if_neg c2).trans (if_pos rfl))
          have n1 : op2 .ne (.str zP) (.str zT) = some (.bl true) := rfl
          have n2 : op2 .ne (.str zP) (.str zP) = some (.bl false) := rfl
          have q : op2 .notin (.str zP) (.lst [.str zT, .str zF, .str zP]) = some (.bl false) := rfl
          rw [S]
          match r, vr, pr, nl, f1 with
          | [], _, _, _, _ => rfl
          | [_], _, _, _, _ => rfl
          | [_, _], _, _, _, _ => rfl
          | [x, y, z], vr, pr, nl, f1 =>
            have nl : op2 .notin (.int ([.str zP, x, y, z].length : Nat)) (.lst [.int 2, .int 3, .int 4]) = some (.bl false) := rfl
            have l2 : op2 .ne (.int ([.str zP, x, y, z].length : Nat)) (.int 4) = some (.bl false) := rfl
            have sl : slD .both (.tup [.str zP, x, y, z]) [.int 1, .int (([.str zP, x, y, z].length : Nat) - 1)] = some (.tup [x, y]) := rfl
            have it : items .seq [.tup [x, y]] = some [x, y] := rfl
            have lx : ixD g (.tup [.str zP, x, y, z]) (.int (-1)) = some z := rfl
            have sp := d_spots f w g [x, y] (fun d hd => vr d (by simp at hd; rcases hd with h | h <;> simp [h])) (by simp) (.p (.tup [.str zP, x, y, z])) (.p (.int (w : Int))) (.p (.tup [x, y])) .u rfl
            have nn := ne_nil _ (pf (fun d => !isFrom d 0 ((w : Int) - 1)) [x, y] (fun d hd => pr d (by simp at hd; rcases hd with h | h <;> simp [h])))
            rw [filt_nil (fun d => isFrom d 0 ((w : Int) - 1))] at nn
            simp only [List.all_cons, List.all_nil, Bool.and_true] at nn
            have fz := f1 z (by simp) 1 12
            cases cx : isFrom x 0 ((w : Int) - 1) with
            | false =>
              rw [cx] at nn
              simp only [b_law_is_step, evSs_cons, evSs_nil, evS_ite, evS_asg, evE_or, evE_and, evE_not, evE_neg, negD_int, evE_bi, evE_call, evEs_cons, evEs_nil, evIs_cons, evIs_nil, toI_int, evE_var, evE_lst, evE_lit, evE_sl, evE_comp, zD_eq, zD_P, getS_z, getS_s, setS_z, setS_s, slV_p, bind_ok, istup_t, of_some, notD_bl, Bool.not_true, Bool.not_false, iteD_bl, Bool.false_eq_true, if_false, evE_op, len_t, nl, if_true, evE_ix, ix_t0, ib, q, l2, n1, n2, bi_int_b, op_sub_i, sl, it, sp, nn, to_ok, evS_ret, thenS_ret, thenS_nx, outR_ret, stP, cx, Bool.true_and, Bool.false_and, Bool.and_false]
            | true =>
              rw [cx] at nn
              obtain ⟨x, rfl, _⟩ := isFrom_int cx
              cases cy : isFrom y 0 ((w : Int) - 1) with
              | false =>
                rw [cy] at nn
                simp only [b_law_is_step, evSs_cons, evSs_nil, evS_ite, evS_asg, evE_or, evE_and, evE_not, evE_neg, negD_int, evE_bi, evE_call, evEs_cons, evEs_nil, evIs_cons, evIs_nil, toI_int, evE_var, evE_lst, evE_lit, evE_sl, evE_comp, zD_eq, zD_P, getS_z, getS_s, setS_z, setS_s, slV_p, bind_ok, istup_t, of_some, notD_bl, Bool.not_true, Bool.not_false, iteD_bl, Bool.false_eq_true, if_false, evE_op, len_t, nl, if_true, evE_ix, ix_t0, ib, q, l2, n1, n2, bi_int_b, op_sub_i, sl, it, sp, nn, to_ok, evS_ret, thenS_ret, thenS_nx, outR_ret, stP, cx, cy, Bool.true_and, Bool.false_and, Bool.and_false]
              | true =>
                rw [cy] at nn
                obtain ⟨y, rfl, _⟩ := isFrom_int cy
                cases cz : isFrom z 1 12 with
                | false =>
                  rw [cz] at fz
                  simp only [b_law_is_step, evSs_cons, evSs_nil, evS_ite, evS_asg, evE_or, evE_and, evE_not, evE_neg, negD_int, evE_bi, evE_call, evEs_cons, evEs_nil, evIs_cons, evIs_nil, toI_int, evE_var, evE_lst, evE_lit, evE_sl, evE_comp, zD_eq, zD_P, getS_z, getS_s, setS_z, setS_s, slV_p, bind_ok, istup_t, of_some, notD_bl, Bool.not_true, Bool.not_false, iteD_bl, Bool.false_eq_true, if_false, evE_op, len_t, nl, if_true, evE_ix, ix_t0, ib, q, l2, n1, n2, bi_int_b, op_sub_i, sl, it, sp, nn, lx, fz, Bool.and_self, to_ok, evS_ret, thenS_ret, thenS_nx, outR_ret, stP, cx, cy, cz, Bool.true_and, Bool.false_and, Bool.and_false]
                | true =>
                  rw [cz] at fz
                  simp only [b_law_is_step, evSs_cons, evSs_nil, evS_ite, evS_asg, evE_or, evE_and, evE_not, evE_neg, negD_int, evE_bi, evE_call, evEs_cons, evEs_nil, evIs_cons, evIs_nil, toI_int, evE_var, evE_lst, evE_lit, evE_sl, evE_comp, zD_eq, zD_P, getS_z, getS_s, setS_z, setS_s, slV_p, bind_ok, istup_t, of_some, notD_bl, Bool.not_true, Bool.not_false, iteD_bl, Bool.false_eq_true, if_false, evE_op, len_t, nl, if_true, evE_ix, ix_t0, ix_t1, ix_t2, ib, q, l2, n1, n2, bi_int_b, op_sub_i, op_ne_i, sl, it, sp, nn, lx, fz, Bool.and_self, to_ok, evS_ret, thenS_ret, thenS_nx, outR_ret, stP, cx, cy, cz, iv, Bool.true_and, Bool.false_and, Bool.and_false]
                  rfl
          | x :: y :: z :: u :: l, vr, pr, nl, _ =>
            have : ¬ (((D.str zP :: x :: y :: z :: u :: l).length : Int) = 4) := by simp only [List.length_cons]; omega
            have st : stP w (x :: y :: z :: u :: l) = false := rfl
            cases c : (decide (((D.str zP :: x :: y :: z :: u :: l).length : Int) = 2) || (decide (((D.str zP :: x :: y :: z :: u :: l).length : Int) = 3) || decide (((D.str zP :: x :: y :: z :: u :: l).length : Int) = 4))) <;> rw [c] at nl <;>
            simp only [b_law_is_step, evSs_cons, evSs_nil, evS_ite, evE_or, evE_not, evE_bi, evEs_cons, evEs_nil, evE_var, evE_lst, evE_lit, zD_eq, zD_P, getS_z, getS_s, slV_p, bind_ok, istup_t, of_some, notD_bl, Bool.not_true, iteD_bl, Bool.false_eq_true, if_false, evE_op, len_t, nl, Bool.not_false, if_true, evE_ix, ix_t0, ib, q, op_ne_i, decide_eq_false this, to_ok, evS_ret, thenS_ret, thenS_nx, outR_ret, st]
        · have S : stOk w (.tup (.str s :: r)) = false := (stOk_str _ _ _).trans <| (if_neg c1).trans ((if_neg c2).trans (if_neg c3))
          rw [S]
          rw [decide_eq_false c1, decide_eq_false c2, decide_eq_false c3] at qn
          cases c : (decide (((D.str s :: r).length : Int) = 2) || (decide (((D.str s :: r).length : Int) = 3) || decide (((D.str s :: r).length : Int) = 4))) <;> rw [c] at nl <;>
          simp only [b_law_is_step, evSs_cons, evSs_nil, evS_ite, evE_or, evE_not, evE_bi, evEs_cons, evEs_nil, evE_var, evE_lst, evE_lit, getS_z, getS_s, slV_p, bind_ok, istup_t, of_some, notD_bl, Bool.not_true, iteD_bl, Bool.false_eq_true, if_false, evE_op, len_t, nl, Bool.not_false, if_true, evE_ix, ix_t0, ib, qn, Bool.or_self, to_ok, evS_ret, thenS_ret, thenS_nx, outR_ret]
  | _ => rfl
/-- steps that are told to be some -/
theorem stp_inv {w : Nat} {d : D} (h : stOk w d = true) : ∃ s : Stp, d = encS s ∧ s.ok w := by
  unfold stOk at h
  split at h
  · rename_i s r
    split at h
    · rename_i c; subst c
      unfold stT at h
      split at h
      · obtain ⟨x, rfl, h1, h2⟩ := isFrom_int h
        refine ⟨.tip x.toNat, ?_, ?_⟩
        · show _ = D.tup [.str zT, .int (x.toNat : Int)]
          rw [Int.toNat_of_nonneg h1]
        · show x.toNat < w; omega
      · cases h
    · split at h
      · rename_i c; subst c
        unfold stF at h
        split at h
        · rw [Bool.and_eq_true] at h
          obtain ⟨x, rfl, h1, h2⟩ := isFrom_int h.1
          obtain ⟨z, rfl, h3, h4⟩ := isFrom_int h.2
          refine ⟨.fill x.toNat z, ?_, ?_⟩
          · show _ = D.tup [.str zF, .int (x.toNat : Int), .int z]
            rw [Int.toNat_of_nonneg h1]
          · show x.toNat < w ∧ _ ∧ _; omega
        · cases h
      · split at h
        · rename_i c; subst c
          unfold stP at h
          split at h
          · simp only [Bool.and_eq_true] at h
            obtain ⟨hz, hx, hy, hn⟩ := h
            obtain ⟨x, rfl, h1, h2⟩ := isFrom_int hx
            obtain ⟨y, rfl, h3, h4⟩ := isFrom_int hy
            obtain ⟨z, rfl, h5, h6⟩ := isFrom_int hz
            have hn : ¬ x = y := fun e => by subst e; simp [iv] at hn
            refine ⟨.pour x.toNat y.toNat z, ?_, ?_⟩
            · show _ = D.tup [.str zP, .int (x.toNat : Int), .int (y.toNat : Int), .int z]
              rw [Int.toNat_of_nonneg h1, Int.toNat_of_nonneg h3]
            · show x.toNat < w ∧ y.toNat < w ∧ x.toNat ≠ y.toNat ∧ _ ∧ _; omega
          · cases h
        · cases h
  · cases h
theorem stp_all {w : Nat} : ∀ (ds : List D), ds.all (stOk w) = true → ∃ ss : List Stp, ds = ss.map encS ∧ ∀ s ∈ ss, s.ok w := by
  intro ds
  induction ds with
  | nil => intro _; exact ⟨[], rfl, by simp⟩
  | cons d ds ih =>
    intro h
    rw [List.all_cons, Bool.and_eq_true] at h
    obtain ⟨s, e, hs⟩ := stp_inv h.1
    obtain ⟨ss, e2, hss⟩ := ih h.2
    exact ⟨s :: ss, by rw [e, e2]; rfl, fun t ht => by
      rcases List.mem_cons.mp ht with rfl | h
      · exact hs
      · exact hss t h⟩
end Rz
/-! RzG57 -/
set_option linter.all false
set_option maxRecDepth 100000
set_option exponentiation.threshold 20000
namespace Rz
/-! ### k01: ways -/
theorem all_map {α : Type} (p : α → Bool) (l : List α) : bi .all [.lst (l.map fun a => D.bl (p a))] = some (.bl (l.all p)) := by
  have : ∀ l : List α, blsOf (l.map fun a => D.bl (p a)) = some (l.map p) := fun l => by
    induction l with
    | nil => rfl
    | cons a l ih => show (blsOf (l.map fun a => D.bl (p a))).map (p a :: ·) = _; rw [ih]; rfl
  show (blsOf (l.map fun a => D.bl (p a))).map (fun bs => D.bl (bs.all id)) = _
  rw [this]
  simp [List.all_map]
theorem notin_123 (m : Int) : op2 .notin (.int m) (.lst [.int 1, .int 2, .int 3]) = some (.bl (!(decide (m = 1) || (decide (m = 2) || decide (m = 3))))) := by
  show some (D.bl (!(((1 : Int) == m) || (((2 : Int) == m) || (((3 : Int) == m) || false))))) = _
  have e : ∀ a : Int, (a == m) = decide (m = a) := fun a => by
    rw [Bool.eq_iff_iff, beq_iff_eq, decide_eq_true_iff]; exact ⟨Eq.symm, Eq.symm⟩
  rw [e, e, e, Bool.or_false]
theorem d_goodV {k n : Nat} (f : Nat) (g : Gs) (vs : List D) (h : ∀ d ∈ vs, Vb k n d) (hl : vs.length ≤ 1000) (e0 e1 e2 : Sl) :
    compD (evF TT (f + 3)) (.call i_is_vessel [.var 1]) (.nm 1) [] [e0, e1, e2] g (some vs) = .ok (.lst (vs.map fun v => .bl (vesB v))) g := by
  have := compD_l (C := evF TT (f + 3)) (env := [e0, e1, e2]) (g := g) (e := .call i_is_vessel [.var 1]) (t := .nm 1) vs (fun d => d) (fun d => .bl (vesB d)) (by omega) fun d hd => ⟨[e0, .p d, e2], rfl, by
    have q := d_vessel f g (h d hd)
    simp only [evE_call, evEs_cons, evEs_nil, evE_var, getS_z, getS_s, slV_p, bind_ok, q]⟩
  rw [List.map_id'] at this
  exact this
theorem d_goodS {k n : Nat} (f : Nat) (g : Gs) (vs : List D) (b : D) (ss : List D) (hk : k ≤ 60) (h : ∀ d ∈ ss, Vb k n d) (hl : ss.length ≤ 1000) (e1 e2 : Sl) :
    compD (evF TT (f + 3)) (.call i_is_step [.bi .len [.ix (.var 0) (.lit (.int 0))], .var 2]) (.nm 2) [] [.p (.tup [.tup vs, b]), e1, e2] g (some ss) = .ok (.lst (ss.map fun s => .bl (stOk vs.length s))) g := by
  have := compD_l (C := evF TT (f + 3)) (env := [.p (.tup [.tup vs, b]), e1, e2]) (g := g) (e := .call i_is_step [.bi .len [.ix (.var 0) (.lit (.int 0))], .var 2]) (t := .nm 2) ss (fun d => d) (fun d => .bl (stOk vs.length d)) (by omega) fun d hd => ⟨[.p (.tup [.tup vs, b]), e1, .p d], rfl, by
    have q := d_step f vs.length g hk (h d hd)
    simp only [evE_call, evE_bi, evE_ix, evE_lit, evEs_cons, evEs_nil, evE_var, getS_z, getS_s, slV_p, bind_ok, ix_t0, of_some, len_t, q]⟩
  rw [List.map_id'] at this
  exact this
theorem d_lawV {k n : Nat} (f : Nat) (g : Gs) (vs : List D) (h : ∀ d ∈ vs, Vb k n d) (hl : vs.length ≤ 1000) (e0 e1 e2 e3 : Sl) :
    compD (evF TT (f + 2)) (.var 1) (.nm 1) [.not (.call i_law_is_vessel [.var 1])] [e0, e1, e2, e3] g (some vs) = .ok (.lst (vs.filter fun v => !vesB v)) g := by
  have := compD_f (C := evF TT (f + 2)) (env := [e0, e1, e2, e3]) (g := g) (e := .var 1) (cnd := .not (.call i_law_is_vessel [.var 1])) (t := .nm 1) vs (fun d => d) (fun d => !vesB d) (fun d => d) (by omega) fun d hd => ⟨[e0, .p d, e2, e3], rfl, by
    have q := d_law_vessel f g (h d hd)
    simp only [evE_not, evE_call, evEs_cons, evEs_nil, evE_var, getS_z, getS_s, slV_p, bind_ok, q, notD_bl], fun _ => rfl⟩
  rw [List.map_id', List.map_id'] at this
  exact this
theorem d_lawS {k n : Nat} (f : Nat) (g : Gs) (vs : List D) (b : D) (ss : List D) (hk : k ≤ 60) (h : ∀ d ∈ ss, Vb k n d) (hl : ss.length ≤ 1000) (e1 e2 e3 : Sl) :
    compD (evF TT (f + 2)) (.var 2) (.nm 2) [.not (.call i_law_is_step [.var 2, .bi .len [.ix (.var 0) (.lit (.int 0))]])] [.p (.tup [.tup vs, b]), e1, e2, e3] g (some ss) = .ok (.lst (ss.filter fun s => !stOk vs.length s)) g := by
  have := compD_f (C := evF TT (f + 2)) (env := [.p (.tup [.tup vs, b]), e1, e2, e3]) (g := g) (e := .var 2) (cnd := .not (.call i_law_is_step [.var 2, .bi .len [.ix (.var 0) (.lit (.int 0))]])) (t := .nm 2) ss (fun d => d) (fun d => !stOk vs.length d) (fun d => d) (by omega) fun d hd => ⟨[.p (.tup [.tup vs, b]), e1, .p d, e3], rfl, by
    have q := dv_law_step f vs.length g hk (h d hd)
    simp only [evE_not, evE_call, evE_bi, evE_ix, evE_lit, evEs_cons, evEs_nil, evE_var, getS_z, getS_s, slV_p, bind_ok, ix_t0, of_some, len_t, q, notD_bl], fun _ => rfl⟩
  rw [List.map_id', List.map_id'] at this
  exact this
theorem law_waters (f n : Nat) (V : Ves) (ss : List Stp) (g : Gs) (hn : n ≤ 1000) (hs : ∀ s ∈ ss, s.ok n) (e1 e2 : Sl) (w0 : Nat → Int) :
    ∃ e2', forL (bodyOf (evF TT (f + 1)) [.asg 3 (.ix (.call i_law_flow [.ix (.var 0) (.lit (.int 0)), .var 3, .var 2]) (.lit (.int 1)))]) (.nm 2) (ss.map encS) [.p (wayD n V ss), e1, e2, .p (wD n w0)] g = .nx [.p (wayD n V ss), e1, e2', .p (wD n (wat V w0 ss))] g := by
  obtain ⟨env', g', f1, hg, y, he⟩ := forL_l (t := .nm 2) (enc := encS) (b := bodyOf (evF TT (f + 1)) [.asg 3 (.ix (.call i_law_flow [.ix (.var 0) (.lit (.int 0)), .var 3, .var 2]) (.lit (.int 1)))])
    (env := [.p (wayD n V ss), e1, e2, .p (wD n w0)]) (g := g)
    (fun pre e g' => g' = g ∧ ∃ y, e = [.p (wayD n V ss), e1, y, .p (wD n (wat V w0 pre))]) ss (fun pre s e g' hm hlt ⟨hg, y, he⟩ => by
      subst he hg
      have w := ev_law_flow f n V (wat V w0 pre) s g' (hs s hm) hn
      have x0 : ∀ g, ixD g (wayD n V ss) (.int 0) = some (vsD n V) := fun g => ix_t0 g _ _
      refine ⟨[.p (wayD n V ss), e1, .p (encS s), .p (wD n (wat V w0 pre))], rfl, [.p (wayD n V ss), e1, .p (encS s), .p (wD n (wat V w0 (pre ++ [s])))], g', .inl ?_, rfl, _, rfl⟩
      simp only [bodyOf_eq, evSs_cons, evSs_nil, evS_asg, evE_var, evEs_cons, evEs_nil, evE_call, evE_ix, evE_lit, getS_z, getS_s, slV_p, bind_ok, x0, of_some, w, ix_t1, to_ok, setS_z, setS_s, thenS_nx, wat_snoc]) ⟨rfl, e2, rfl⟩
  subst he hg
  exact ⟨y, f1⟩
theorem way_shape {k n : Nat} {d : D} (h : Vb k n d) (hd : ∀ vs b, d ≠ .tup [.tup vs, b]) (f : Nat) (g : Gs) : evF TT (f + 1) i_is_good [d] g = .ok (.bl false) g ∧ evF TT (f + 1) i_law_is_way [d] g = .ok (.bl false) g := by
  cases h with
  | tup k n ds hl h2 =>
    match ds, hl, h2, hd with
    | [], _, _, _ => exact ⟨rfl, rfl⟩
    | [a], _, _, _ => exact ⟨rfl, rfl⟩
    | [a, b], _, h2, hd =>
      obtain ⟨c, ic, ib⟩ := istup_d (h2 a (by simp))
      cases c with
      | true => obtain ⟨ds, rfl⟩ := ib rfl; exact absurd rfl (hd ds b)
      | false =>
        have l2 : op2 .ne (.int ([a, b].length : Nat)) (.int 2) = some (.bl false) := rfl
        constructor
        · rw [evF_s T_is_good, runF_eq rfl]
          show outR (evSs (evF TT f) b_is_good [.p (.tup [a, b]), .u, .u] g) = _
          simp only [b_is_good, evSs_cons, evSs_nil, evS_ite, evE_or, evE_not, evE_bi, evEs_cons, evEs_nil, evE_var, getS_z, slV_p, bind_ok, istup_t, of_some, notD_bl, Bool.not_true, iteD_bl, Bool.false_eq_true, if_false, evE_op, len_t, evE_lit, l2, evE_ix, ix_t0, ic, Bool.not_false, if_true, to_ok, evS_ret, thenS_ret, outR_ret]
        · rw [evF_s T_law_is_way, runF_eq rfl]
          show outR (evSs (evF TT f) b_law_is_way [.p (.tup [a, b]), .u, .u, .u] g) = _
          simp only [b_law_is_way, evSs_cons, evSs_nil, evS_ite, evE_or, evE_not, evE_bi, evEs_cons, evEs_nil, evE_var, getS_z, slV_p, bind_ok, istup_t, of_some, notD_bl, Bool.not_true, iteD_bl, Bool.false_eq_true, if_false, evE_op, len_t, evE_lit, l2, evE_ix, ix_t0, ic, Bool.not_false, if_true, to_ok, evS_ret, thenS_ret, outR_ret]
    | a :: b :: c :: r, _, _, _ =>
      have : ¬ (((a :: b :: c :: r).length : Int) = 2) := by simp only [List.length_cons]; omega
      constructor
      · rw [evF_s T_is_good, runF_eq rfl]
        show outR (evSs (evF TT f) b_is_good [.p (.tup (a :: b :: c :: r)), .u, .u] g) = _
        simp only [b_is_good, evSs_cons, evSs_nil, evS_ite, evE_or, evE_not, evE_bi, evEs_cons, evEs_nil, evE_var, getS_z, slV_p, bind_ok, istup_t, of_some, notD_bl, Bool.not_true, iteD_bl, Bool.false_eq_true, if_false, evE_op, len_t, evE_lit, op_ne_i, decide_eq_false this, Bool.not_false, if_true, to_ok, evS_ret, thenS_ret, outR_ret]
      · rw [evF_s T_law_is_way, runF_eq rfl]
        show outR (evSs (evF TT f) b_law_is_way [.p (.tup (a :: b :: c :: r)), .u, .u, .u] g) = _
        simp only [b_law_is_way, evSs_cons, evSs_nil, evS_ite, evE_or, evE_not, evE_bi, evEs_cons, evEs_nil, evE_var, getS_z, slV_p, bind_ok, istup_t, of_some, notD_bl, Bool.not_true, iteD_bl, Bool.false_eq_true, if_false, evE_op, len_t, evE_lit, op_ne_i, decide_eq_false this, Bool.not_false, if_true, to_ok, evS_ret, thenS_ret, outR_ret]
  | _ => exact ⟨rfl, rfl⟩
theorem way_both {k n : Nat} {d : D} (f f' : Nat) (g : Gs) (hk : k ≤ 59) (hn : n ≤ 900) (h : Vb k n d) : ∃ b : Bool, evF TT (f + 4) i_is_good [d] g = .ok (.bl b) g ∧ evF TT (f' + 3) i_law_is_way [d] g = .ok (.bl b) g := by
  by_cases hd : ∀ vs b, d ≠ .tup [.tup vs, b]
  · exact ⟨false, (way_shape h hd (f + 3) g).1, (way_shape h hd (f' + 2) g).2⟩
  have ⟨vs, b, e⟩ : ∃ vs b, d = .tup [.tup vs, b] := Classical.byContradiction fun c => hd fun vs b e => c ⟨vs, b, e⟩
  subst e
  have hb : Vb k n b := h.tup_inv b (by simp)
  have hv : Vb k n (.tup vs) := h.tup_inv _ (by simp)
  have hvs := hv.tup_inv
  have lvs := hv.tup_len
  have l2 : op2 .ne (.int ([.tup vs, b].length : Nat)) (.int 2) = some (.bl false) := rfl
  have gv := d_goodV f g vs hvs (by omega)
  have lv := d_lawV f' g vs hvs (by omega)
  have av := all_map vesB vs
  have nv := ne_nil (vs.filter fun v => !vesB v) fun d hd => (hvs d (List.mem_filter.mp hd).1).pl (by omega)
  rw [filt_nil] at nv
  have n3 := notin_123 (vs.length : Int)
  have iv : items .seq [.tup vs] = some vs := rfl
  by_cases c13 : ¬ (1 ≤ (vs.length : Int) ∧ (vs.length : Int) ≤ 3)
  · refine ⟨false, ?_, ?_⟩
    · rw [evF_s T_is_good, runF_eq rfl]
      show outR (evSs (evF TT (f + 3)) b_is_good [.p (.tup [.tup vs, b]), .u, .u] g) = _
      by_cases c1 : 1 ≤ (vs.length : Int)
      · have c2 : ¬ (vs.length : Int) ≤ 3 := fun c2 => c13 ⟨c1, c2⟩
        simp only [b_is_good, evSs_cons, evSs_nil, evS_ite, evE_or, evE_not, evE_bi, evEs_cons, evEs_nil, evE_var, getS_z, slV_p, bind_ok, istup_t, of_some, notD_bl, Bool.not_true, iteD_bl, Bool.false_eq_true, if_false, evE_op, len_t, evE_lit, l2, evE_ix, ix_t0, evE_chain, op_le_i, chD_bl, decide_eq_true c1, decide_eq_false c2, Bool.not_false, if_true, to_ok, evS_ret, thenS_nx, thenS_ret, outR_ret]
      · simp only [b_is_good, evSs_cons, evSs_nil, evS_ite, evE_or, evE_not, evE_bi, evEs_cons, evEs_nil, evE_var, getS_z, slV_p, bind_ok, istup_t, of_some, notD_bl, Bool.not_true, iteD_bl, Bool.false_eq_true, if_false, evE_op, len_t, evE_lit, l2, evE_ix, ix_t0, evE_chain, op_le_i, chD_bl, decide_eq_false c1, Bool.not_false, if_true, to_ok, evS_ret, thenS_nx, thenS_ret, outR_ret]
    · rw [evF_s T_law_is_way, runF_eq rfl]
      show outR (evSs (evF TT (f' + 2)) b_law_is_way [.p (.tup [.tup vs, b]), .u, .u, .u] g) = _
      have a1 : ¬ (vs.length : Int) = 1 := by omega
      have a2 : ¬ (vs.length : Int) = 2 := by omega
      have a3 : ¬ (vs.length : Int) = 3 := by omega
      rw [decide_eq_false a1, decide_eq_false a2, decide_eq_false a3] at n3
      simp only [b_law_is_way, evSs_cons, evSs_nil, evS_ite, evE_or, evE_not, evE_bi, evEs_cons, evEs_nil, evE_var, evE_lst, getS_z, slV_p, bind_ok, istup_t, of_some, notD_bl, Bool.not_true, iteD_bl, Bool.false_eq_true, if_false, evE_op, len_t, evE_lit, l2, evE_ix, ix_t0, n3, Bool.or_self, Bool.not_false, if_true, to_ok, evS_ret, thenS_nx, thenS_ret, outR_ret]
  obtain ⟨c1, c3⟩ := Classical.not_not.mp c13
  have n3 : op2 .notin (.int (vs.length : Int)) (.lst [.int 1, .int 2, .int 3]) = some (.bl false) := by
    rw [n3]
    have : (vs.length : Int) = 1 ∨ (vs.length : Int) = 2 ∨ (vs.length : Int) = 3 := by omega
    rcases this with h | h | h <;> rw [h] <;> rfl
  cases cv : vs.all vesB with
  | false =>
    rw [cv] at av nv
    refine ⟨false, ?_, ?_⟩
    · rw [evF_s T_is_good, runF_eq rfl]
      show outR (evSs (evF TT (f + 3)) b_is_good [.p (.tup [.tup vs, b]), .u, .u] g) = _
      simp only [b_is_good, evSs_cons, evSs_nil, evS_ite, evE_or, evE_not, evE_bi, evE_comp, evEs_cons, evEs_nil, evE_var, getS_z, slV_p, bind_ok, istup_t, of_some, notD_bl, Bool.not_true, iteD_bl, Bool.false_eq_true, if_false, evE_op, len_t, evE_lit, l2, evE_ix, ix_t0, evE_chain, op_le_i, chD_bl, decide_eq_true c1, decide_eq_true c3, iv, gv, av, Bool.not_false, if_true, to_ok, evS_ret, thenS_nx, thenS_ret, outR_ret]
    · rw [evF_s T_law_is_way, runF_eq rfl]
      show outR (evSs (evF TT (f' + 2)) b_law_is_way [.p (.tup [.tup vs, b]), .u, .u, .u] g) = _
      simp only [b_law_is_way, evSs_cons, evSs_nil, evS_ite, evE_or, evE_not, evE_bi, evE_comp, evEs_cons, evEs_nil, evE_var, evE_lst, getS_z, slV_p, bind_ok, istup_t, of_some, notD_bl, Bool.not_true, iteD_bl, Bool.false_eq_true, if_false, evE_op, len_t, evE_lit, l2, evE_ix, ix_t0, n3, iv, lv, nv, Bool.not_false, if_true, to_ok, evS_ret, thenS_nx, thenS_ret, outR_ret]
  | true =>
  rw [cv] at av nv
  obtain ⟨V, eV, hV⟩ := ves_all vs cv
  obtain ⟨t, it, ib⟩ := istup_d hb
  cases t with
  | false =>
    refine ⟨false, ?_, ?_⟩
    · rw [evF_s T_is_good, runF_eq rfl]
      show outR (evSs (evF TT (f + 3)) b_is_good [.p (.tup [.tup vs, b]), .u, .u] g) = _
      simp only [b_is_good, evSs_cons, evSs_nil, evS_ite, evE_or, evE_not, evE_bi, evE_comp, evEs_cons, evEs_nil, evE_var, getS_z, slV_p, bind_ok, istup_t, of_some, notD_bl, Bool.not_true, iteD_bl, Bool.false_eq_true, if_false, evE_op, len_t, evE_lit, l2, evE_ix, ix_t0, ix_t1, evE_chain, op_le_i, chD_bl, decide_eq_true c1, decide_eq_true c3, iv, gv, av, it, Bool.not_false, if_true, to_ok, evS_ret, thenS_nx, thenS_ret, outR_ret]
    · rw [evF_s T_law_is_way, runF_eq rfl]
      show outR (evSs (evF TT (f' + 2)) b_law_is_way [.p (.tup [.tup vs, b]), .u, .u, .u] g) = _
      simp only [b_law_is_way, evSs_cons, evSs_nil, evS_ite, evE_or, evE_not, evE_bi, evE_comp, evEs_cons, evEs_nil, evE_var, evE_lst, getS_z, slV_p, bind_ok, istup_t, of_some, notD_bl, Bool.not_true, iteD_bl, Bool.false_eq_true, if_false, evE_op, len_t, evE_lit, l2, evE_ix, ix_t0, ix_t1, n3, iv, lv, nv, it, Bool.not_false, if_true, to_ok, evS_ret, thenS_nx, thenS_ret, outR_ret]
  | true =>
  obtain ⟨ss, rfl⟩ := ib rfl
  have hss := hb.tup_inv
  have lss := hb.tup_len
  have is : items .seq [.tup ss] = some ss := rfl
  have gs := d_goodS f g vs (.tup ss) ss (by omega) hss (by omega)
  have ls := d_lawS f' g vs (.tup ss) ss (by omega) hss (by omega)
  have as := all_map (stOk vs.length) ss
  have ns := ne_nil (ss.filter fun s => !stOk vs.length s) fun d hd => (hss d (List.mem_filter.mp hd).1).pl (by omega)
  rw [filt_nil] at ns
  by_cases c18 : ¬ (1 ≤ (ss.length : Int) ∧ (ss.length : Int) ≤ 8)
  · refine ⟨false, ?_, ?_⟩
    · rw [evF_s T_is_good, runF_eq rfl]
      show outR (evSs (evF TT (f + 3)) b_is_good [.p (.tup [.tup vs, .tup ss]), .u, .u] g) = _
      by_cases d1 : 1 ≤ (ss.length : Int)
      · have d2 : ¬ (ss.length : Int) ≤ 8 := fun c2 => c18 ⟨d1, c2⟩
        simp only [b_is_good, evSs_cons, evSs_nil, evS_ite, evE_or, evE_not, evE_bi, evE_comp, evEs_cons, evEs_nil, evE_var, getS_z, slV_p, bind_ok, istup_t, of_some, notD_bl, Bool.not_true, iteD_bl, Bool.false_eq_true, if_false, evE_op, len_t, evE_lit, l2, evE_ix, ix_t0, ix_t1, evE_chain, op_le_i, chD_bl, decide_eq_true c1, decide_eq_true c3, iv, gv, av, it, decide_eq_true d1, decide_eq_false d2, Bool.not_false, if_true, to_ok, evS_ret, thenS_nx, thenS_ret, outR_ret]
      · simp only [b_is_good, evSs_cons, evSs_nil, evS_ite, evE_or, evE_not, evE_bi, evE_comp, evEs_cons, evEs_nil, evE_var, getS_z, slV_p, bind_ok, istup_t, of_some, notD_bl, Bool.not_true, iteD_bl, Bool.false_eq_true, if_false, evE_op, len_t, evE_lit, l2, evE_ix, ix_t0, ix_t1, evE_chain, op_le_i, chD_bl, decide_eq_true c1, decide_eq_true c3, iv, gv, av, it, decide_eq_false d1, Bool.not_false, if_true, to_ok, evS_ret, thenS_nx, thenS_ret, outR_ret]
    · rw [evF_s T_law_is_way, runF_eq rfl]
      show outR (evSs (evF TT (f' + 2)) b_law_is_way [.p (.tup [.tup vs, .tup ss]), .u, .u, .u] g) = _
      by_cases d1 : 1 ≤ (ss.length : Int)
      · have d2 : ¬ (ss.length : Int) ≤ 8 := fun c2 => c18 ⟨d1, c2⟩
        simp only [b_law_is_way, evSs_cons, evSs_nil, evS_ite, evE_or, evE_not, evE_bi, evE_comp, evEs_cons, evEs_nil, evE_var, evE_lst, getS_z, slV_p, bind_ok, istup_t, of_some, notD_bl, Bool.not_true, iteD_bl, Bool.false_eq_true, if_false, evE_op, len_t, evE_lit, l2, evE_ix, ix_t0, ix_t1, n3, iv, lv, nv, it, evE_chain, op_le_i, chD_bl, decide_eq_true d1, decide_eq_false d2, Bool.not_false, if_true, to_ok, evS_ret, thenS_nx, thenS_ret, outR_ret]
      · simp only [b_law_is_way, evSs_cons, evSs_nil, evS_ite, evE_or, evE_not, evE_bi, evE_comp, evEs_cons, evEs_nil, evE_var, evE_lst, getS_z, slV_p, bind_ok, istup_t, of_some, notD_bl, Bool.not_true, iteD_bl, Bool.false_eq_true, if_false, evE_op, len_t, evE_lit, l2, evE_ix, ix_t0, ix_t1, n3, iv, lv, nv, it, evE_chain, op_le_i, chD_bl, decide_eq_false d1, Bool.not_false, if_true, to_ok, evS_ret, thenS_nx, thenS_ret, outR_ret]
  obtain ⟨d1, d8⟩ := Classical.not_not.mp c18
  cases cs : ss.all (stOk vs.length) with
  | false =>
    rw [cs] at as ns
    refine ⟨false, ?_, ?_⟩
    · rw [evF_s T_is_good, runF_eq rfl]
      show outR (evSs (evF TT (f + 3)) b_is_good [.p (.tup [.tup vs, .tup ss]), .u, .u] g) = _
      simp only [b_is_good, evSs_cons, evSs_nil, evS_ite, evE_or, evE_not, evE_bi, evE_comp, evEs_cons, evEs_nil, evE_var, getS_z, slV_p, bind_ok, istup_t, of_some, notD_bl, Bool.not_true, iteD_bl, Bool.false_eq_true, if_false, evE_op, len_t, evE_lit, l2, evE_ix, ix_t0, ix_t1, evE_chain, op_le_i, chD_bl, decide_eq_true c1, decide_eq_true c3, iv, gv, av, it, decide_eq_true d1, decide_eq_true d8, is, gs, as, Bool.not_false, if_true, to_ok, evS_ret, thenS_nx, thenS_ret, outR_ret]
    · rw [evF_s T_law_is_way, runF_eq rfl]
      show outR (evSs (evF TT (f' + 2)) b_law_is_way [.p (.tup [.tup vs, .tup ss]), .u, .u, .u] g) = _
      simp only [b_law_is_way, evSs_cons, evSs_nil, evS_ite, evE_or, evE_not, evE_bi, evE_comp, evEs_cons, evEs_nil, evE_var, evE_lst, getS_z, slV_p, bind_ok, istup_t, of_some, notD_bl, Bool.not_true, iteD_bl, Bool.false_eq_true, if_false, evE_op, len_t, evE_lit, l2, evE_ix, ix_t0, ix_t1, n3, iv, lv, nv, it, evE_chain, op_le_i, chD_bl, decide_eq_true d1, decide_eq_true d8, is, ls, ns, Bool.not_false, if_true, to_ok, evS_ret, thenS_nx, thenS_ret, outR_ret]
  | true =>
  rw [cs] at as ns
  obtain ⟨sl, rfl, hsl⟩ := stp_all ss cs
  rw [List.length_map] at d1 d8
  have hm : vs.length ≤ 1000 := by omega
  generalize hmm : vs.length = m at *
  have ew : D.tup [.tup vs, .tup (sl.map encS)] = wayD m V sl := by rw [eV]; rfl
  obtain ⟨ds, hw, hd'⟩ := ev_all_waters f m V sl g hm (by omega) hsl
  have hbg := ev_begins (f + 2) m V g hm
  have hx : ixD g (.lst ((ds ++ [wD m (wat V V.beg sl)]).drop 1)) (.int (-1)) = some (wD m (wat V V.beg sl)) := by
    cases ds with
    | nil => simp at hd'; omega
    | cons d ds =>
      show ixD g (.lst (ds ++ [_])) _ = _
      rw [ix_last]
  have eq := eq_pl (pl_wD 59 m (wat V V.beg sl)) (pl_wD 59 m V.beg)
  have st := ev_law_start (f' + 1) m V g hm
  obtain ⟨e2', lw⟩ := law_waters (f' + 1) m V sl g hm hsl .u .u V.beg
  refine ⟨D.eqv (wD m (wat V V.beg sl)) (wD m V.beg), ?_, ?_⟩
  · rw [evF_s T_is_good, runF_eq rfl]
    show outR (evSs (evF TT (f + 3)) b_is_good [.p (.tup [.tup vs, .tup (sl.map encS)]), .u, .u] g) = _
    rw [← ew] at hw
    rw [← eV] at hbg
    rw [List.length_map] at *
    simp only [b_is_good, evSs_cons, evSs_nil, evS_ite, evE_or, evE_not, evE_bi, evE_comp, evEs_cons, evEs_nil, evE_var, getS_z, slV_p, bind_ok, istup_t, of_some, notD_bl, Bool.not_true, iteD_bl, Bool.false_eq_true, if_false, evE_op, len_t, hmm, List.length_map, evE_lit, l2, evE_ix, ix_t0, ix_t1, evE_chain, op_le_i, chD_bl, decide_eq_true c1, decide_eq_true c3, iv, gv, av, it, decide_eq_true d1, decide_eq_true d8, is, gs, as, Bool.not_false, if_true, evE_call, hw, evE_neg, negD_int, hx, hbg, eq, to_ok, evS_ret, thenS_nx, thenS_ret, outR_ret]
  · rw [evF_s T_law_is_way, runF_eq rfl]
    show outR (evSs (evF TT (f' + 2)) b_law_is_way [.p (.tup [.tup vs, .tup (sl.map encS)]), .u, .u, .u] g) = _
    rw [← ew] at lw
    rw [← eV] at st
    simp only [b_law_is_way, evSs_cons, evSs_nil, evS_ite, evS_asg, evS_for, evE_or, evE_not, evE_bi, evE_comp, evE_call, evEs_cons, evEs_nil, evE_var, evE_lst, getS_z, getS_s, setS_z, setS_s, slV_p, bind_ok, istup_t, of_some, notD_bl, Bool.not_true, iteD_bl, Bool.false_eq_true, if_false, evE_op, len_t, hmm, List.length_map, evE_lit, l2, evE_ix, ix_t0, ix_t1, n3, iv, lv, nv, it, evE_chain, op_le_i, chD_bl, decide_eq_true d1, decide_eq_true d8, is, ls, ns, st, fork_ok, forD_some, lw, eq, Bool.not_false, if_true, to_ok, evS_ret, thenS_nx, thenS_ret, outR_ret]
end Rz
/-! RzG58 -/
set_option linter.all false
set_option maxRecDepth 100000
set_option exponentiation.threshold 20000
namespace Rz
/-! ### k01: dirt -/
theorem T_is_amount1 : TT i_is_amount = some d_is_amount := rfl
theorem T_is_dirt_for1 : TT i_is_dirt_for = some d_is_dirt_for := rfl
theorem T_is_way1 : TT i_is_way = some d_is_way := rfl
theorem T_is_dirt1 : TT i_is_dirt = some d_is_dirt := rfl
theorem T_law_right_k01 : TT i_law_right_k01 = some d_law_right_k01 := rfl
abbrev M38 : Int := 100000000000000000000000000000000000000
def lowD (a b : Int) : D := fr (Rat.divInt a b)
def amtI (a b : Int) : Bool := decide (1 ≤ b) && (D.eqv (lowD a b) (.tup [.int a, .int b]) && (decide (0 ≤ a) && (decide (a ≤ M38) && decide (b ≤ M38))))
def amtB : D → Bool
  | .tup [.int a, .int b] => amtI a b
  | _ => false
theorem amtB_ii (a b : Int) : amtB (.tup [.int a, .int b]) = amtI a b := rfl
theorem amtB_3 (a b c : D) (r : List D) : amtB (.tup (a :: b :: c :: r)) = false := by
  cases a <;> first | rfl | (cases b <;> rfl)
theorem zb_B2 {n : Nat} (hn : n ≤ 900) : ZB n < B2 := by
  rw [ZB_eq, B2_eq]
  calc 10 ^ 40 + 10 * n < 2 ^ 200 := by have : (10 : Nat) ^ 40 + 9001 < 2 ^ 200 := by decide
                                        omega
    _ ≤ 2 ^ 13400 := Nat.pow_le_pow_right (by decide) (by decide)
theorem vb_B2 {k n : Nat} {i : Int} (hn : n ≤ 900) (h : Vb k n (.int i)) : i.natAbs < B2 := by
  cases h with
  | int k n i h => exact Nat.lt_trans h (zb_B2 hn)
theorem isI_inv {d : D} (h : isI d = true) : ∃ i, d = .int i := by
  cases d <;> first | exact ⟨_, rfl⟩ | (simp [isI] at h)
theorem amtB_l {a b : D} (h : isI a = false ∨ isI b = false) : amtB (.tup [a, b]) = false := by
  cases a <;> cases b <;> first | rfl | (simp [isI] at h)
theorem d_fraction {k n : Nat} {d : D} (f : Nat) (g : Gs) (hn : n ≤ 900) (h : Vb k n d) : (∃ a b : Int, d = .tup [.int a, .int b] ∧ evF TT (f + 3) i_is_any_fraction [d] g = .ok (.bl (decide (1 ≤ b) && D.eqv (lowD a b) (.tup [.int a, .int b]))) g) ∨ ((∀ a b : Int, d ≠ .tup [.int a, .int b]) ∧ amtB d = false ∧ evF TT (f + 3) i_is_any_fraction [d] g = .ok (.bl false) g) := by
  cases h with
  | tup k n ds hl h2 =>
    match ds, h2 with
    | [], _ => exact .inr ⟨fun a b h => by simp at h, rfl, rfl⟩
    | [a], _ => exact .inr ⟨fun a b h => by simp at h, by cases a <;> rfl, rfl⟩
    | a :: b :: c :: r, _ =>
      have : ¬ (((a :: b :: c :: r).length : Int) = 2) := by simp only [List.length_cons]; omega
      refine .inr ⟨fun a b h => by simp at h, amtB_3 _ _ _ _, ?_⟩
      rw [evF_s T_is_any_fraction, runF_eq rfl]
      show outR (evSs (evF TT (f + 2)) b_is_any_fraction [.p (.tup (a :: b :: c :: r))] g) = _
      simp only [b_is_any_fraction, evSs_cons, evSs_nil, evS_ite, evE_or, evE_not, evE_bi, evEs_cons, evEs_nil, evE_var, getS_z, slV_p, bind_ok, istup_t, of_some, notD_bl, Bool.not_true, iteD_bl, Bool.false_eq_true, if_false, evE_op, len_t, evE_lit, op_ne_i, decide_eq_false this, Bool.not_false, if_true, to_ok, evS_ret, thenS_ret, outR_ret]
    | [a, b], h2 =>
      have l2 : op2 .ne (.int ([a, b].length : Nat)) (.int 2) = some (.bl false) := rfl
      have ia := d_integer (f + 1) g (h2 a (by simp))
      have ib := d_integer (f + 1) g (h2 b (by simp))
      cases ca : isI a with
      | false =>
        rw [ca] at ia
        refine .inr ⟨fun x y h => by injection h with h; injection h with h; subst h; simp [isI] at ca, amtB_l (.inl ca), ?_⟩
        rw [evF_s T_is_any_fraction, runF_eq rfl]
        show outR (evSs (evF TT (f + 2)) b_is_any_fraction [.p (.tup [a, b])] g) = _
        simp only [b_is_any_fraction, evSs_cons, evSs_nil, evS_ite, evE_or, evE_not, evE_bi, evE_call, evEs_cons, evEs_nil, evE_var, getS_z, slV_p, bind_ok, istup_t, of_some, notD_bl, Bool.not_true, iteD_bl, Bool.false_eq_true, if_false, evE_op, len_t, evE_lit, l2, evE_ix, ix_t0, ia, Bool.not_false, if_true, to_ok, evS_ret, thenS_ret, outR_ret]
      | true =>
        rw [ca] at ia
        cases cb : isI b with
        | false =>
          rw [cb] at ib
          refine .inr ⟨fun x y h => by injection h with h; injection h with h h'; injection h' with h'; subst h'; simp [isI] at cb, amtB_l (.inr cb), ?_⟩
          rw [evF_s T_is_any_fraction, runF_eq rfl]
          show outR (evSs (evF TT (f + 2)) b_is_any_fraction [.p (.tup [a, b])] g) = _
          simp only [b_is_any_fraction, evSs_cons, evSs_nil, evS_ite, evE_or, evE_not, evE_bi, evE_call, evEs_cons, evEs_nil, evE_var, getS_z, slV_p, bind_ok, istup_t, of_some, notD_bl, Bool.not_true, iteD_bl, Bool.false_eq_true, if_false, evE_op, len_t, evE_lit, l2, evE_ix, ix_t0, ix_t1, ia, ib, Bool.not_false, if_true, to_ok, evS_ret, thenS_ret, outR_ret]
        | true =>
          rw [cb] at ib
          obtain ⟨x, rfl⟩ := isI_inv ca
          obtain ⟨y, rfl⟩ := isI_inv cb
          refine .inl ⟨x, y, rfl, ?_⟩
          rw [evF_s T_is_any_fraction, runF_eq rfl]
          show outR (evSs (evF TT (f + 2)) b_is_any_fraction [.p (.tup [.int x, .int y])] g) = _
          by_cases cy : 1 ≤ y
          · have lo := ev_lowest f x y g (by omega) (vb_B2 hn (h2 _ (by simp))) (vb_B2 hn (h2 _ (by simp)))
            have eq := eq_pl (x := lowD x y) (y := .tup [.int x, .int y]) (pl_fr 59 _) (pl_tup fun d hd => by
              simp only [List.mem_cons, List.not_mem_nil, or_false] at hd
              rcases hd with rfl | rfl <;> exact pl_int _ _)
            simp only [b_is_any_fraction, evSs_cons, evSs_nil, evS_ite, evE_or, evE_and, evE_not, evE_bi, evE_call, evEs_cons, evEs_nil, evE_var, getS_z, slV_p, bind_ok, istup_t, of_some, notD_bl, Bool.not_true, iteD_bl, Bool.false_eq_true, if_false, evE_op, len_t, evE_lit, l2, evE_ix, ix_t0, ix_t1, ia, ib, Bool.not_false, if_true, op_ge_i, decide_eq_true cy, lo, Bool.true_and, to_ok, evS_ret, thenS_nx, thenS_ret, outR_ret]
            simp only [lowD] at eq
            simp only [eq, of_some, to_ok, thenS_ret, outR_ret, lowD]
          · simp only [b_is_any_fraction, evSs_cons, evSs_nil, evS_ite, evE_or, evE_and, evE_not, evE_bi, evE_call, evEs_cons, evEs_nil, evE_var, getS_z, slV_p, bind_ok, istup_t, of_some, notD_bl, Bool.not_true, iteD_bl, Bool.false_eq_true, if_false, evE_op, len_t, evE_lit, l2, evE_ix, ix_t0, ix_t1, ia, ib, Bool.not_false, if_true, op_ge_i, decide_eq_false cy, Bool.false_and, to_ok, evS_ret, thenS_nx, thenS_ret, outR_ret]
  | _ => exact .inr ⟨fun a b h => (by cases h), rfl, rfl⟩
theorem d_amount {k n : Nat} {d : D} (f : Nat) (g : Gs) (hn : n ≤ 900) (h : Vb k n d) : evF TT (f + 4) i_is_amount [d] g = .ok (.bl (amtB d)) g := by
  rw [evF_s T_is_amount1, runF_eq rfl]
  show outR (evSs (evF TT (f + 3)) b_is_amount [.p d] g) = _
  rcases d_fraction f g hn h with ⟨a, b, rfl, q⟩ | ⟨_, am, q⟩
  · rw [amtB_ii, amtI]
    cases c1 : decide (1 ≤ b) <;> cases c2 : D.eqv (lowD a b) (.tup [.int a, .int b]) <;> rw [c1, c2] at q <;> cases c3 : decide (0 ≤ a) <;> cases c4 : decide (a ≤ M38) <;>
    simp only [b_is_amount, evSs_cons, evSs_nil, evS_ret, evE_and, evE_call, evEs_cons, evEs_nil, evE_var, getS_z, slV_p, bind_ok, q, iteD_bl, Bool.and_true, Bool.and_false, Bool.true_and, Bool.false_and, Bool.false_eq_true, if_false, if_true, evE_chain, evE_lit, evE_glo, evE_ix, ix_t0, ix_t1, of_some, op_le_i, c3, c4, chD_bl, evE_op, to_ok, thenS_ret, outR_ret]
  · rw [am]
    simp only [b_is_amount, evSs_cons, evSs_nil, evS_ret, evE_and, evE_call, evEs_cons, evEs_nil, evE_var, getS_z, slV_p, bind_ok, q, iteD_bl, Bool.false_eq_true, if_false, to_ok, thenS_ret, outR_ret]
def dirtB (w : Nat) : D → Bool
  | .tup ds => decide (ds.length = w) && ds.all amtB
  | _ => false
theorem dv_dirt_for {k n : Nat} {d : D} (f w : Nat) (g : Gs) (hn : n ≤ 900) (h : Vb k n d) : evF TT (f + 5) i_is_dirt_for [.int (w : Int), d] g = .ok (.bl (dirtB w d)) g := by
  cases h with
  | tup k n ds hl h2 =>
    rw [evF_s T_is_dirt_for1, runF_eq rfl]
    show outR (evSs (evF TT (f + 4)) b_is_dirt_for [.p (.int (w : Int)), .p (.tup ds), .u] g) = _
    have cd : compD (evF TT (f + 4)) (.call i_is_amount [.var 2]) (.nm 2) [] [.p (.int (w : Int)), .p (.tup ds), .u] g (some ds) = .ok (.lst (ds.map fun d => .bl (amtB d))) g := by
      have := compD_l (C := evF TT (f + 4)) (env := [.p (.int (w : Int)), .p (.tup ds), .u]) (g := g) (e := .call i_is_amount [.var 2]) (t := .nm 2) ds (fun d => d) (fun d => .bl (amtB d)) (by omega) fun d hd => ⟨[.p (.int (w : Int)), .p (.tup ds), .p d], rfl, by
        have q := d_amount f g hn (h2 d hd)
        simp only [evE_call, evEs_cons, evEs_nil, evE_var, getS_z, getS_s, slV_p, bind_ok, q]⟩
      rw [List.map_id'] at this
      exact this
    have is : items .seq [.tup ds] = some ds := rfl
    by_cases c : ds.length = w
    · have c' : (ds.length : Int) = (w : Int) := by omega
      simp only [b_is_dirt_for, evSs_cons, evSs_nil, evS_ret, evE_and, evE_bi, evE_comp, evEs_cons, evEs_nil, evE_var, getS_z, getS_s, slV_p, bind_ok, istup_t, of_some, iteD_bl, if_true, evE_op, len_t, op_eq_i, decide_eq_true c', is, cd, all_map, to_ok, thenS_ret, outR_ret, dirtB, decide_eq_true c, Bool.true_and]
    · have c' : ¬ (ds.length : Int) = (w : Int) := by omega
      simp only [b_is_dirt_for, evSs_cons, evSs_nil, evS_ret, evE_and, evE_bi, evE_comp, evEs_cons, evEs_nil, evE_var, getS_z, getS_s, slV_p, bind_ok, istup_t, of_some, iteD_bl, if_true, evE_op, len_t, op_eq_i, decide_eq_false c', Bool.false_eq_true, if_false, to_ok, thenS_ret, outR_ret, dirtB, decide_eq_false c, Bool.false_and]
  | _ => rfl
/-! as the law looks at it -/
def lawDirtBody : List St := [.ite (.or_ (.not (.bi .istup [.var 2])) (.op .ne (.bi .len [.var 2]) (.lit (.int 2)))) [.ret (.lit (.bl false))] [],
    .ite (.or_ (.not (.call i_law_int [.ix (.var 2) (.lit (.int 0)), .lit (.int 0),
    .op .pow (.lit (.int 10)) (.lit (.int 38))])) (.not (.call i_law_int [.ix (.var 2) (.lit (.int 1)), .lit (.int 1),
    .op .pow (.lit (.int 10)) (.lit (.int 38))]))) [.ret (.lit (.bl false))] [], .ite (.op .ne (.call i_law_low [.ix (.var 2) (.lit (.int 0)),
    .ix (.var 2) (.lit (.int 1))]) (.var 2)) [.ret (.lit (.bl false))] []]
theorem pow38 : op2 .pow (.int 10) (.int 38) = some (.int M38) := rfl
theorem d_lawPart {k n : Nat} {d : D} (f : Nat) (g : Gs) (hn : n ≤ 900) (h : Vb k n d) (e0 e1 : Sl) : evSs (evF TT (f + 2)) lawDirtBody [e0, e1, .p d] g = if amtB d = true then .nx [e0, e1, .p d] g else .ret (.bl false) g := by
  cases h with
  | tup k n ds hl h2 =>
    match ds, h2 with
    | [], _ => rfl
    | [a], _ =>
      have am : amtB (.tup [a]) = false := by cases a <;> rfl
      rw [am]; rfl
    | a :: b :: c :: r, _ =>
      have : ¬ (((a :: b :: c :: r).length : Int) = 2) := by simp only [List.length_cons]; omega
      have am : amtB (.tup (a :: b :: c :: r)) = false := amtB_3 _ _ _ _
      simp only [am, lawDirtBody, evSs_cons, evSs_nil, evS_ite, evE_or, evE_not, evE_bi, evEs_cons, evEs_nil, evE_var, getS_z, getS_s, slV_p, bind_ok, istup_t, of_some, notD_bl, Bool.not_true, iteD_bl, Bool.false_eq_true, if_false, evE_op, len_t, evE_lit, op_ne_i, decide_eq_false this, Bool.not_false, if_true, to_ok, evS_ret, thenS_ret]
    | [a, b], h2 =>
      have l2 : op2 .ne (.int ([a, b].length : Nat)) (.int 2) = some (.bl false) := rfl
      have ia := d_int (f + 1) 0 M38 g (h2 a (by simp))
      have ib := d_int (f + 1) 1 M38 g (h2 b (by simp))
      cases ca : isFrom a 0 M38 with
      | false =>
        have am : amtB (.tup [a, b]) = false := by
          cases a with
          | int x =>
            cases b with
            | int y =>
              rw [amtB_ii, amtI]
              simp only [isFrom] at ca
              cases c1 : decide (0 ≤ x) <;> cases c2 : decide (x ≤ M38) <;> rw [c1, c2] at ca <;> simp at ca <;> simp
            | _ => rfl
          | _ => rfl
        rw [ca] at ia
        simp only [am, lawDirtBody, evSs_cons, evSs_nil, evS_ite, evE_or, evE_not, evE_bi, evE_call, evEs_cons, evEs_nil, evE_var, getS_z, getS_s, slV_p, bind_ok, istup_t, of_some, notD_bl, Bool.not_true, iteD_bl, Bool.false_eq_true, if_false, evE_op, len_t, evE_lit, l2, evE_ix, ix_t0, pow38, ia, Bool.not_false, if_true, to_ok, evS_ret, thenS_nx, thenS_ret]
      | true =>
        rw [ca] at ia
        obtain ⟨x, rfl, x1, x2⟩ := isFrom_int ca
        cases cb : isFrom b 1 M38 with
        | false =>
          have am : amtB (.tup [.int x, b]) = false := by
            cases b with
            | int y =>
              rw [amtB_ii, amtI]
              simp only [isFrom] at cb
              cases c1 : decide (1 ≤ y) <;> cases c2 : decide (y ≤ M38) <;> rw [c1, c2] at cb <;> simp at cb <;> simp
            | _ => rfl
          rw [cb] at ib
          simp only [am, lawDirtBody, evSs_cons, evSs_nil, evS_ite, evE_or, evE_not, evE_bi, evE_call, evEs_cons, evEs_nil, evE_var, getS_z, getS_s, slV_p, bind_ok, istup_t, of_some, notD_bl, Bool.not_true, iteD_bl, Bool.false_eq_true, if_false, evE_op, len_t, evE_lit, l2, evE_ix, ix_t0, ix_t1, pow38, ia, ib, Bool.not_false, if_true, to_ok, evS_ret, thenS_nx, thenS_ret]
        | true =>
          rw [cb] at ib
          obtain ⟨y, rfl, y1, y2⟩ := isFrom_int cb
          have lo := ev_law_low (f + 1) x y g (by omega) (vb_B2 hn (h2 _ (by simp))) (vb_B2 hn (h2 _ (by simp)))
          have ne := ne_pl (x := fr (Rat.divInt x y)) (y := .tup [.int x, .int y]) (pl_fr 59 _) (pl_tup fun d hd => by
              simp only [List.mem_cons, List.not_mem_nil, or_false] at hd
              rcases hd with rfl | rfl <;> exact pl_int _ _)
          have am : amtB (.tup [.int x, .int y]) = D.eqv (fr (Rat.divInt x y)) (.tup [.int x, .int y]) := by
            rw [amtB_ii, amtI, decide_eq_true y1, decide_eq_true x1, decide_eq_true x2, decide_eq_true y2, Bool.true_and, Bool.and_self, Bool.and_self, Bool.and_true]; rfl
          rw [am]
          cases ce : D.eqv (fr (Rat.divInt x y)) (.tup [.int x, .int y]) <;> rw [ce] at ne <;>
          simp only [lawDirtBody, evSs_cons, evSs_nil, evS_ite, evE_or, evE_not, evE_bi, evE_call, evEs_cons, evEs_nil, evE_var, getS_z, getS_s, slV_p, bind_ok, istup_t, of_some, notD_bl, Bool.not_true, iteD_bl, Bool.false_eq_true, if_false, evE_op, len_t, evE_lit, l2, evE_ix, ix_t0, ix_t1, pow38, ia, ib, lo, ne, Bool.not_false, if_true, to_ok, evS_ret, thenS_nx, thenS_ret]
  | _ => rfl
theorem d_lawParts {k n : Nat} (f : Nat) (g : Gs) (hn : n ≤ 900) (e0 e1 : Sl) : ∀ (ds : List D) (e2 : Sl), (∀ d ∈ ds, Vb k n d) → ∃ e2', forL (bodyOf (evF TT (f + 2)) lawDirtBody) (.nm 2) ds [e0, e1, e2] g = if ds.all amtB = true then .nx [e0, e1, e2'] g else .ret (.bl false) g := by
  intro ds
  induction ds with
  | nil => intro e2 _; exact ⟨e2, rfl⟩
  | cons d ds ih =>
    intro e2 h
    have q := d_lawPart f g hn (h d (by simp)) e0 e1
    rw [List.all_cons]
    have hb : bindT (.nm 2) d [e0, e1, e2] = some [e0, e1, .p d] := rfl
    cases c : amtB d with
    | true =>
      rw [c, if_pos rfl] at q
      obtain ⟨e2', h'⟩ := ih (.p d) fun x hx => h x (by simp [hx])
      refine ⟨e2', ?_⟩
      rw [forL_nx hb (by rw [bodyOf_eq]; exact q), h', Bool.true_and]
    | false =>
      rw [c, if_neg (by simp)] at q
      refine ⟨e2, ?_⟩
      rw [forL_ret hb (by rw [bodyOf_eq]; exact q), Bool.false_and, if_neg (by simp)]
theorem d_law_is_dirt_ev {k n : Nat} {d : D} (f w : Nat) (g : Gs) (hn : n ≤ 900) (h : Vb k n d) : evF TT (f + 3) i_law_is_dirt [d, .int (w : Int)] g = .ok (.bl (dirtB w d)) g := by
  cases h with
  | tup k n ds hl h2 =>
    rw [evF_s T_law_is_dirt, runF_eq rfl]
    show outR (evSs (evF TT (f + 2)) b_law_is_dirt [.p (.tup ds), .p (.int (w : Int)), .u] g) = _
    have hb : b_law_is_dirt = [.ite (.or_ (.not (.bi .istup [.var 0])) (.op .ne (.bi .len [.var 0]) (.var 1))) [.ret (.lit (.bl false))] [], .for_ (.nm 2) .seq [.var 0] lawDirtBody, .ret (.lit (.bl true))] := rfl
    rw [hb]
    have is : items .seq [.tup ds] = some ds := rfl
    obtain ⟨e2', fl⟩ := d_lawParts f g hn (.p (.tup ds)) (.p (.int (w : Int))) ds .u h2
    generalize lawDirtBody = bd at *
    by_cases c : ds.length = w
    · have c' : (ds.length : Int) = (w : Int) := by omega
      cases ca : ds.all amtB with
      | true =>
        rw [ca, if_pos rfl] at fl
        simp only [evSs_cons, evSs_nil, evS_ite, evS_for, evE_or, evE_not, evE_bi, evEs_cons, evEs_nil, evE_var, evE_lit, getS_z, getS_s, slV_p, bind_ok, istup_t, of_some, notD_bl, Bool.not_true, iteD_bl, Bool.false_eq_true, if_false, evE_op, len_t, op_ne_i, decide_eq_true c', to_ok, evS_ret, thenS_nx, fork_ok, is, forD_some, fl, thenS_ret, outR_ret, dirtB, decide_eq_true c, ca, Bool.true_and]
      | false =>
        rw [ca, if_neg (by simp)] at fl
        simp only [evSs_cons, evSs_nil, evS_ite, evS_for, evE_or, evE_not, evE_bi, evEs_cons, evEs_nil, evE_var, evE_lit, getS_z, getS_s, slV_p, bind_ok, istup_t, of_some, notD_bl, Bool.not_true, iteD_bl, Bool.false_eq_true, if_false, evE_op, len_t, op_ne_i, decide_eq_true c', to_ok, evS_ret, thenS_nx, fork_ok, is, forD_some, fl, thenS_ret, outR_ret, dirtB, decide_eq_true c, ca, Bool.true_and]
    · have c' : ¬ (ds.length : Int) = (w : Int) := by omega
      simp only [evSs_cons, evSs_nil, evS_ite, evS_for, evE_or, evE_not, evE_bi, evEs_cons, evEs_nil, evE_var, evE_lit, getS_z, getS_s, slV_p, bind_ok, istup_t, of_some, notD_bl, Bool.not_true, Bool.not_false, iteD_bl, Bool.false_eq_true, if_false, if_true, evE_op, len_t, op_ne_i, decide_eq_false c', to_ok, evS_ret, thenS_ret, outR_ret, dirtB, decide_eq_false c, Bool.false_and]
  | _ => rfl
theorem ev_law_right1 {k n : Nat} {d : D} (f m : Nat) (V : Ves) (ss : List Stp) (g : Gs) (hk : k ≤ 59) (hn : n ≤ 900) (hw : WayOk m V ss) (h : Vb k n d) : evF TT (f + 7) i_law_right_k01 [wayD m V ss, d] g = .ok (.bl true) g := by
  obtain ⟨b, q1, q2⟩ := way_both (f + 1) (f + 3) g hk hn h
  have q1 : evF TT (f + 6) i_is_way [d] g = .ok (.bl b) g := by
    rw [evF_s T_is_way1, runF_eq rfl]
    show outR (evSs (evF TT (f + 5)) b_is_way [.p d] g) = _
    simp only [b_is_way, evSs_cons, evSs_nil, evS_ret, evE_call, evEs_cons, evEs_nil, evE_var, getS_z, slV_p, bind_ok, q1, to_ok, thenS_ret, outR_ret]
  have q3 : evF TT (f + 6) i_is_dirt [wayD m V ss, d] g = .ok (.bl (dirtB m d)) g := by
    rw [evF_s T_is_dirt1, runF_eq rfl]
    show outR (evSs (evF TT (f + 5)) b_is_dirt [.p (wayD m V ss), .p d] g) = _
    have nw := ev_need_way f m V ss g hw
    have df := dv_dirt_for f m g hn h
    simp only [b_is_dirt, evSs_cons, evSs_nil, evS_ex, evS_ret, evE_call, evE_bi, evE_ix, evE_lit, evEs_cons, evEs_nil, evE_var, getS_z, getS_s, slV_p, bind_ok, nw, wx0, lenV, of_some, df, to_ok, thenS_nx, thenS_ret, outR_ret]
  have q4 := d_law_is_dirt_ev (f + 3) m g hn h
  rw [evF_s T_law_right_k01, runF_eq rfl]
  show outR (evSs (evF TT (f + 6)) b_law_right_k01 [.p (wayD m V ss), .p d, .u, .u] g) = _
  have is : items .seq [.lst [.bl b, .bl (dirtB m d)]] = some [.bl b, .bl (dirtB m d)] := rfl
  have cd : compD (evF TT (f + 6)) (.var 3) (.nm 3) [.not (.bi .isbool [.var 3])] [.p (wayD m V ss), .p d, .p (.lst [.bl b, .bl (dirtB m d)]), .u] g (some [.bl b, .bl (dirtB m d)]) = .ok (.lst []) g := rfl
  have ne : op2 .ne (.lst []) (.lst []) = some (.bl false) := rfl
  have eq : op2 .eq (.lst [.bl b, .bl (dirtB m d)]) (.lst [.bl b, .bl (dirtB m d)]) = some (.bl true) := by cases b <;> cases dirtB m d <;> rfl
  simp only [b_law_right_k01, evSs_cons, evSs_nil, evS_asg, evS_ite, evS_ret, evE_op, evE_lst, evE_comp, evE_call, evE_bi, evE_ix, evE_lit, evEs_cons, evEs_nil, evE_var, getS_z, getS_s, setS_z, setS_s, slV_p, bind_ok, q1, q2, q3, q4, wx0, lenV, is, cd, ne, eq, of_some, iteD_bl, Bool.false_eq_true, if_false, to_ok, thenS_nx, thenS_ret, outR_ret]
end Rz
/-! RzG59 -/
set_option linter.all false
set_option maxRecDepth 100000
set_option exponentiation.threshold 20000
namespace Rz
/-! ### k01: volumes and water -/
theorem T_volumes : TT i_volumes = some d_volumes := rfl
theorem T_water : TT i_water = some d_water := rfl
theorem T_law_water_right : TT i_law_water_right = some d_law_water_right := rfl
def watL (n : Nat) (V : Ves) : (Nat → Int) → List Stp → List D
  | _, [] => []
  | w, s :: ss => wD n (wn V w s) :: watL n V (wn V w s) ss
def clN (I : Stp → Bool) (V : Ves) : (Nat → Int) → List Stp → Int
  | _, [] => 0
  | w, s :: ss => mv V w s * (if I s then 1 else 0) + clN I V (wn V w s) ss
theorem watL_snoc (n : Nat) (V : Ves) : ∀ (ss : List Stp) (w : Nat → Int) (s : Stp), watL n V w (ss ++ [s]) = watL n V w ss ++ [wD n (wn V (wat V w ss) s)] := by
  intro ss
  induction ss with
  | nil => intro w s; rfl
  | cons a ss ih => intro w s; show wD n (wn V w a) :: watL n V (wn V w a) (ss ++ [s]) = _; rw [ih]; rfl
theorem clN_snoc (I : Stp → Bool) (V : Ves) : ∀ (ss : List Stp) (w : Nat → Int) (s : Stp), clN I V w (ss ++ [s]) = clN I V w ss + mv V (wat V w ss) s * (if I s then 1 else 0) := by
  intro ss
  induction ss with
  | nil => intro w s; show _ + (0 : Int) = 0 + _; rw [Int.add_comm]; rfl
  | cons a ss ih => intro w s; show _ + clN I V (wn V w a) (ss ++ [s]) = _ + clN I V (wn V w a) ss + _; rw [ih, Int.add_assoc]; rfl
theorem watL_last (n : Nat) (V : Ves) : ∀ (ss : List Stp) (w : Nat → Int), ∃ ds, wD n w :: watL n V w ss = ds ++ [wD n (wat V w ss)] := by
  intro ss
  induction ss with
  | nil => intro w; exact ⟨[], rfl⟩
  | cons a ss ih =>
    intro w
    obtain ⟨ds, h⟩ := ih (wn V w a)
    exact ⟨wD n w :: ds, by show wD n w :: (wD n (wn V w a) :: watL n V (wn V w a) ss) = _; rw [h]; rfl⟩
theorem watL_len (n : Nat) (V : Ves) : ∀ (ss : List Stp) (w : Nat → Int), (watL n V w ss).length = ss.length := by
  intro ss
  induction ss with
  | nil => intro w; rfl
  | cons a ss ih => intro w; show (watL n V (wn V w a) ss).length + 1 = _; rw [ih]; rfl
theorem watL_pl (n : Nat) (V : Ves) : ∀ (ss : List Stp) (w : Nat → Int), ∀ d ∈ watL n V w ss, Pl 59 d := by
  intro ss
  induction ss with
  | nil => intro w d hd; cases hd
  | cons a ss ih =>
    intro w d hd
    rcases List.mem_cons.mp hd with rfl | h
    · exact pl_wD 58 _ _
    · exact ih _ d h
def isFl : Stp → Bool
  | .fill _ _ => true
  | _ => false
def isTi : Stp → Bool
  | .tip _ => true
  | _ => false
theorem stH (s : Stp) (g : Gs) : ∃ t, ixD g (encS s) (.int 0) = some t ∧ op2 .eq t (.str [102, 105, 108, 108]) = some (.bl (isFl s)) ∧ op2 .eq t (.str [116, 105, 112]) = some (.bl (isTi s)) := by
  cases s <;> exact ⟨_, rfl, rfl, rfl⟩
theorem mv_small {n : Nat} {V : Ves} {w : Nat → Int} {s : Stp} (hV : ∀ i, i < n → VOk V i) (h : WOk V n w) (hs : s.ok n) : (mv V w s).natAbs < 2 ^ 10 := by
  have e : (2 : Nat) ^ 10 = 1024 := by decide
  rw [e]
  cases s with
  | fill a z =>
    obtain ⟨ha, h1, h2⟩ := hs
    have v := hV a ha
    have := v.r1; have := v.r2; have := v.f1; have := h.lo a ha; have := h.hi a ha
    show (min z (V.room a - w a)).natAbs < 1024
    omega
  | tip a =>
    have ha : a < n := hs
    have v := hV a ha
    have := v.r1; have := v.r2; have := v.f1; have := h.lo a ha; have := h.hi a ha
    show (w a - V.film a).natAbs < 1024
    omega
  | pour a b z =>
    obtain ⟨ha, hb, hab, h1, h2⟩ := hs
    have v := hV a ha
    have v' := hV b hb
    have := v.r1; have := v.r2; have := v.f1; have := h.lo a ha; have := h.hi a ha
    have := v'.r1; have := v'.r2; have := v'.f1; have := h.lo b hb; have := h.hi b hb
    show (min z (min (V.room b - w b) (w a - V.film a))).natAbs < 1024
    omega
theorem mul_b {i : Int} (h : i.natAbs < 2 ^ 10) (b : Bool) : op2 .mul (.int i) (.int (if b then 1 else 0)) = some (.int (i * (if b then 1 else 0))) :=
  op_mul_i (mulOk_of (n := 10) (m := 10) h (by cases b <;> decide) (by decide) (by decide) (by decide))
theorem ev_all_waters1 (k n : Nat) (V : Ves) (ss : List Stp) (g : Gs) (hn : n ≤ 1000) (hl : ss.length ≤ 1000) (hs : ∀ s ∈ ss, s.ok n) :
    evF TT (k + 3) i_all_waters [wayD n V ss] g = .ok (.lst (watL n V V.beg ss)) g := by
  rw [evF_s T_all_waters, runF_eq rfl]
  show outR (evSs (evF TT (k + 2)) b_all_waters [.p (wayD n V ss), .u, .u, .u, .u] g) = _
  have hb := ev_begins (k + 1) n V g hn
  obtain ⟨env', g', f1, hg, y4, he⟩ := forL_l (t := .nm 4) (enc := encS) (b := bodyOf (evF TT (k + 2)) [.asg 3 (.op .add (.var 3) (.lst [.call i_waters_behind [.var 1, .ix (.var 3) (.neg (.lit (.int 1))), .var 4]]))])
    (env := [.p (wayD n V ss), .p (vsD n V), .p (ssD ss), .p (.lst [wD n V.beg]), .u]) (g := g)
    (fun pre e g' => g' = g ∧ ∃ y4, e = [.p (wayD n V ss), .p (vsD n V), .p (ssD ss), .p (.lst (wD n V.beg :: watL n V V.beg pre)), y4]) ss (fun pre s e g' hm hlt ⟨hg, y4, he⟩ => by
      subst he hg
      have w := ev_waters k n V (wat V V.beg pre) s g' (hs s hm) hn
      obtain ⟨ds, hds⟩ := watL_last n V pre V.beg
      have lx : ixD g' (.lst (wD n V.beg :: watL n V V.beg pre)) (.int (-1)) = some (wD n (wat V V.beg pre)) := by rw [hds]; exact ix_last _ _ _
      have ha : op2 .add (.lst (wD n V.beg :: watL n V V.beg pre)) (.lst [wD n (wn V (wat V V.beg pre) s)]) = some (.lst (wD n V.beg :: watL n V V.beg (pre ++ [s]))) := by
        rw [op_add_l (by simp [watL_len]; omega), watL_snoc]; rfl
      refine ⟨[.p (wayD n V ss), .p (vsD n V), .p (ssD ss), .p (.lst (wD n V.beg :: watL n V V.beg pre)), .p (encS s)], rfl, [.p (wayD n V ss), .p (vsD n V), .p (ssD ss), .p (.lst (wD n V.beg :: watL n V V.beg (pre ++ [s]))), .p (encS s)], g', .inl ?_, rfl, _, rfl⟩
      simp only [bodyOf_eq, evSs_cons, evSs_nil, evS_asg, evE_op, evE_var, evE_lst, evEs_cons, evEs_nil, evE_call, evE_ix, evE_neg, evE_lit, getS_z, getS_s, slV_p, bind_ok, negD_int, lx, of_some, w, ha, to_ok, setS_z, setS_s, thenS_nx]) ⟨rfl, .u, rfl⟩
  subst he hg
  have hi : items .seq [ssD ss] = some (ss.map encS) := rfl
  have hx : slD .lo (.lst (wD n V.beg :: watL n V V.beg ss)) [.int 1] = some (.lst (watL n V V.beg ss)) := slice_lo_l _ 1 (by simp)
  simp only [wayD, b_all_waters, evSs_cons, evSs_nil, evS_unp, evS_asg, evE_var, evE_lst, evEs_cons, evEs_nil, evE_call, getS_z, getS_s, slV_p, to_ok, bind_t2, setS_z, setS_s, nxO_some, thenS_nx, bind_ok, hb, evS_for, fork_ok, hi, forD_some]
  simp only [wayD] at f1
  simp only [f1, thenS_nx, evSs_cons, evS_ret, evE_sl, evE_var, getS_z, getS_s, slV_p, bind_ok, evIs_cons, evIs_nil, evE_lit, toI_int, hx, of_some, to_ok, thenS_ret, outR_ret]
def waterBody : List St := [.asg 7 (.call i_moved_by [.var 1, .var 3, .var 6]), .par [(false, 4), (false,
    5)] [.op .add (.var 4) (.op .mul (.var 7) (.bi .int [.op .eq (.ix (.var 6) (.lit (.int 0))) (.glo [70, 73, 76, 76] (.str [102, 105, 108, 108]))])),
    .op .add (.var 5) (.op .mul (.var 7) (.bi .int [.op .eq (.ix (.var 6) (.lit (.int 0))) (.glo [84, 73, 80] (.str [116, 105, 112]))]))],
    .asg 3 (.call i_waters_behind [.var 1, .var 3, .var 6])]
theorem ev_water (k n : Nat) (V : Ves) (ss : List Stp) (g : Gs) (h : WayOk n V ss) :
    evF TT (k + 6) i_water [wayD n V ss] g = .ok (.tup [.int (clN isFl V V.beg ss), .int (clN isTi V V.beg ss)]) g := by
  rw [evF_s T_water, runF_eq rfl]
  show outR (evSs (evF TT (k + 5)) b_water [.p (wayD n V ss), .u, .u, .u, .u, .u, .u, .u] g) = _
  have n3 := h.n3
  have nw := ev_need_way k n V ss g h
  have hb := ev_begins (k + 4) n V g (by omega)
  obtain ⟨env', g', f1, hg, hw', y6, y7, he⟩ := forL_l (t := .nm 6) (enc := encS) (b := bodyOf (evF TT (k + 5)) waterBody)
    (env := [.p (wayD n V ss), .p (vsD n V), .p (ssD ss), .p (wD n V.beg), .p (.int 0), .p (.int 0), .u, .u]) (g := g)
    (fun pre e g' => g' = g ∧ WOk V n (wat V V.beg pre) ∧ ∃ y6 y7, e = [.p (wayD n V ss), .p (vsD n V), .p (ssD ss), .p (wD n (wat V V.beg pre)), .p (.int (clN isFl V V.beg pre)), .p (.int (clN isTi V V.beg pre)), y6, y7]) ss (fun pre s e g' hm hlt ⟨hg, hw, y6, y7, he⟩ => by
      subst he hg
      have so := h.sok s hm
      have w := ev_waters (k + 3) n V (wat V V.beg pre) s g' so (by omega)
      have mo := ev_moved (k + 4) n V (wat V V.beg pre) s g' so
      obtain ⟨t, t0, tf, tt⟩ := stH s g'
      have m1 := mul_b (mv_small h.vok hw so) (isFl s)
      have m2 := mul_b (mv_small h.vok hw so) (isTi s)
      refine ⟨[.p (wayD n V ss), .p (vsD n V), .p (ssD ss), .p (wD n (wat V V.beg pre)), .p (.int (clN isFl V V.beg pre)), .p (.int (clN isTi V V.beg pre)), .p (encS s), y7], rfl, [.p (wayD n V ss), .p (vsD n V), .p (ssD ss), .p (wD n (wat V V.beg (pre ++ [s]))), .p (.int (clN isFl V V.beg (pre ++ [s]))), .p (.int (clN isTi V V.beg (pre ++ [s]))), .p (encS s), .p (.int (mv V (wat V V.beg pre) s))], g', .inl ?_, rfl, ?_, _, _, rfl⟩
      · simp only [bodyOf_eq, waterBody, evSs_cons, evSs_nil, evS_asg, evS_par, evE_op, evE_bi, evE_var, evEs_cons, evEs_nil, evE_call, evE_ix, evE_lit, evE_glo, getS_z, getS_s, slV_p, bind_ok, mo, t0, tf, tt, of_some, bi_int_b, m1, m2, op_add_i, parD_ok, setPar_cons, setPar_nil, Bool.false_and, Bool.false_eq_true, if_false, nxO_some, w, to_ok, setS_z, setS_s, thenS_nx, wat_snoc, clN_snoc]
      · rw [wat_snoc]; exact wn_ok h.vok hw so) ⟨rfl, beg_ok h.vok, .u, .u, rfl⟩
  subst he hg
  have hi : items .seq [ssD ss] = some (ss.map encS) := rfl
  have hbw : b_water = [.ex (.call i_need_way [.var 0]), .unp (.tp [(.nm 1), (.nm 2)]) (.var 0), .par [(false, 3), (false, 4), (false, 5)] [.call i_begins [.var 1], .lit (.int 0),
    .lit (.int 0)], .for_ (.nm 6) .seq [.var 2] waterBody, .ret (.tup [.var 4, .var 5])] := rfl
  rw [hbw]
  generalize waterBody = wb at *
  simp only [wayD] at nw f1 ⊢
  simp only [evSs_cons, evSs_nil, evS_ex, evS_unp, evS_par, evS_for, evS_ret, evE_tup, evE_call, evE_lit, evE_var, evEs_cons, evEs_nil, getS_z, getS_s, slV_p, bind_ok, nw, to_ok, thenS_nx, bind_t2, setS_z, setS_s, nxO_some, hb, parD_ok, setPar_cons, setPar_nil, Bool.false_and, Bool.false_eq_true, if_false, fork_ok, hi, forD_some, f1, thenS_ret, outR_ret]
def lawWaterBody : List St := [.unp (.tp [(.nm 6), (.nm 1)]) (.call i_law_flow [.ix (.var 0) (.lit (.int 0)), .var 1, .var 5]),
    .app 2 (.var 1), .asg 3 (.op .add (.var 3) (.op .mul (.var 6) (.bi .int [.op .eq (.ix (.var 5) (.lit (.int 0))) (.lit (.str [102, 105, 108, 108]))]))),
    .asg 4 (.op .add (.var 4) (.op .mul (.var 6) (.bi .int [.op .eq (.ix (.var 5) (.lit (.int 0))) (.lit (.str [116, 105, 112]))])))]
theorem ev_law_water_right (k n : Nat) (V : Ves) (ss : List Stp) (g : Gs) (h : WayOk n V ss) : evF TT (k + 8) i_law_water_right [wayD n V ss] g = .ok (.bl true) g := by
  rw [evF_s T_law_water_right, runF_eq rfl]
  show outR (evSs (evF TT (k + 7)) b_law_water_right [.p (wayD n V ss), .u, .u, .u, .u, .u, .u] g) = _
  have n3 := h.n3
  have s8 := h.s8
  have st := ev_law_start (k + 6) n V g (by omega)
  obtain ⟨env', g', f1, hg, hw', y5, y6, he⟩ := forL_l (t := .nm 5) (enc := encS) (b := bodyOf (evF TT (k + 7)) lawWaterBody)
    (env := [.p (wayD n V ss), .p (wD n V.beg), .o (.lst []), .p (.int 0), .p (.int 0), .u, .u]) (g := g)
    (fun pre e g' => g' = g ∧ WOk V n (wat V V.beg pre) ∧ ∃ y5 y6, e = [.p (wayD n V ss), .p (wD n (wat V V.beg pre)), .o (.lst (watL n V V.beg pre)), .p (.int (clN isFl V V.beg pre)), .p (.int (clN isTi V V.beg pre)), y5, y6]) ss (fun pre s e g' hm hlt ⟨hg, hw, y5, y6, he⟩ => by
      subst he hg
      have so := h.sok s hm
      have fl := ev_law_flow (k + 6) n V (wat V V.beg pre) s g' so (by omega)
      obtain ⟨t, t0, tf, tt⟩ := stH s g'
      have m1 := mul_b (mv_small h.vok hw so) (isFl s)
      have m2 := mul_b (mv_small h.vok hw so) (isTi s)
      have hlt' : Nat.blt (watL n V V.beg pre).length lineN = true := by
        rw [watL_len]; exact Nat.ble_eq_true_of_le (by simp only [lineN]; omega)
      refine ⟨[.p (wayD n V ss), .p (wD n (wat V V.beg pre)), .o (.lst (watL n V V.beg pre)), .p (.int (clN isFl V V.beg pre)), .p (.int (clN isTi V V.beg pre)), .p (encS s), y6], rfl, [.p (wayD n V ss), .p (wD n (wat V V.beg (pre ++ [s]))), .o (.lst (watL n V V.beg (pre ++ [s]))), .p (.int (clN isFl V V.beg (pre ++ [s]))), .p (.int (clN isTi V V.beg (pre ++ [s]))), .p (encS s), .p (.int (mv V (wat V V.beg pre) s))], g', .inl ?_, rfl, ?_, _, _, rfl⟩
      · simp only [bodyOf_eq, lawWaterBody, evSs_cons, evSs_nil, evS_asg, evS_unp, evS_app, evE_op, evE_bi, evE_var, evEs_cons, evEs_nil, evE_call, evE_ix, evE_lit, getS_z, getS_s, slV_p, bind_ok, wx0, fl, bind_t2, nxO_some, appD_o, hlt', if_true, t0, tf, tt, of_some, bi_int_b, m1, m2, op_add_i, to_ok, setS_z, setS_s, thenS_nx, wat_snoc, clN_snoc, watL_snoc]
      · rw [wat_snoc]; exact wn_ok h.vok hw so) ⟨rfl, beg_ok h.vok, .u, .u, rfl⟩
  subst he hg
  have hi : items .seq [ssD ss] = some (ss.map encS) := rfl
  have vo : evF TT (k + 7) i_volumes [wayD n V ss] g' = .ok (.lst (watL n V V.beg ss)) g' := by
    rw [evF_s T_volumes, runF_eq rfl]
    show outR (evSs (evF TT (k + 6)) b_volumes [.p (wayD n V ss)] g') = _
    have nw := ev_need_way (k + 1) n V ss g' h
    have aw := ev_all_waters1 (k + 3) n V ss g' (by omega) (by omega) h.sok
    simp only [b_volumes, evSs_cons, evSs_nil, evS_ex, evS_ret, evE_call, evEs_cons, evEs_nil, evE_var, getS_z, slV_p, bind_ok, nw, aw, to_ok, thenS_nx, thenS_ret, outR_ret]
  have wa := ev_water (k + 1) n V ss g' h
  have e1 := eq_self (pl_lst (watL_pl n V ss V.beg))
  have e2 := eq_self (d := .tup [.int (clN isFl V V.beg ss), .int (clN isTi V V.beg ss)]) (pl_tup fun d hd => by
    simp only [List.mem_cons, List.not_mem_nil, or_false] at hd
    rcases hd with rfl | rfl <;> exact pl_int _ _)
  have hbw : b_law_water_right = [.par [(false, 1), (true, 2), (false, 3), (false, 4)] [.call i_law_start [.ix (.var 0) (.lit (.int 0))], .lst [], .lit (.int 0), .lit (.int 0)],
    .for_ (.nm 5) .seq [.ix (.var 0) (.lit (.int 1))] lawWaterBody, .frz [2],
    .ret (.and_ (.op .eq (.call i_volumes [.var 0]) (.var 2)) (.op .eq (.call i_water [.var 0]) (.tup [.var 3, .var 4])))] := rfl
  rw [hbw]
  generalize lawWaterBody = wb at *
  have x1 : ∀ g, ixD g (wayD n V ss) (.int 1) = some (ssD ss) := fun g => ix_t1 g _ _ _
  simp only [evSs_cons, evSs_nil, evS_par, evS_for, evS_frz, evS_ret, evE_and, evE_op, evE_tup, evE_lst, evE_ix, evE_call, evE_lit, evE_var, evEs_cons, evEs_nil, getS_z, getS_s, slV_p, bind_ok, wx0, x1, of_some, st, parD_ok, setPar_cons, setPar_nil, Bool.false_and, Bool.true_and, isLst_l, Bool.not_true, Bool.false_eq_true, if_false, if_true, nxO_some, setS_z, setS_s, thenS_nx, fork_ok, hi, forD_some, f1, frzS_1, frzS_z, frzS_s, fr_o, vo, wa, e1, e2, iteD_bl, to_ok, thenS_ret, outR_ret]
end Rz
/-! RzG60 -/
set_option linter.all false
set_option maxRecDepth 100000
set_option exponentiation.threshold 20000
namespace Rz
/-! ### k01: anything, and bent data -/
def vbB : Nat → D → Bool
  | 0, d => (match d with
    | .non => true
    | .bl _ => true
    | .int i => Nat.blt i.natAbs 10000000000000000000000000000000000000000
    | .str s => Nat.ble s.length 100 && s.all fun c => Nat.blt c 128
    | _ => false)
  | n + 1, d => (match d with
    | .non => true
    | .bl _ => true
    | .int i => Nat.blt i.natAbs 10000000000000000000000000000000000000000
    | .str s => Nat.ble s.length 100 && s.all fun c => Nat.blt c 128
    | .tup ds => Nat.ble ds.length 100 && ds.all (vbB n)
    | .lst ds => Nat.ble ds.length 100 && ds.all (vbB n)
    | _ => false)
theorem vbB_ok : ∀ (k : Nat) (d : D), vbB k d = true → Vb k 100 d := by
  have zi : ∀ (k : Nat) (i : Int), vbB k (.int i) = true → Vb k 100 (.int i) := fun k i h => by
    have h : Nat.blt i.natAbs 10000000000000000000000000000000000000000 = true := by cases k <;> exact h
    refine .int _ _ _ ?_
    rw [ZB_eq]
    have := Nat.le_of_ble_eq_true h
    omega
  have zs : ∀ (k : Nat) (s : List Nat), vbB k (.str s) = true → Vb k 100 (.str s) := fun k s h => by
    have h : (Nat.ble s.length 100 && s.all fun c => Nat.blt c 128) = true := by cases k <;> exact h
    rw [Bool.and_eq_true] at h
    exact .str _ _ _ (Nat.le_of_ble_eq_true h.1) fun c hc => Nat.le_of_ble_eq_true (List.all_eq_true.mp h.2 c hc)
  intro k
  induction k with
  | zero =>
    intro d h
    cases d with
    | non => exact .non _ _
    | bl b => exact .bl _ _ _
    | int i => exact zi _ _ h
    | str s => exact zs _ _ h
    | _ => simp [vbB] at h
  | succ k ih =>
    intro d h
    cases d with
    | non => exact .non _ _
    | bl b => exact .bl _ _ _
    | int i => exact zi _ _ h
    | str s => exact zs _ _ h
    | tup ds =>
      rw [vbB, Bool.and_eq_true] at h
      exact .tup _ _ _ (Nat.le_of_ble_eq_true h.1) fun d hd => ih d (List.all_eq_true.mp h.2 d hd)
    | lst ds =>
      rw [vbB, Bool.and_eq_true] at h
      exact .lst _ _ _ (Nat.le_of_ble_eq_true h.1) fun d hd => ih d (List.all_eq_true.mp h.2 d hd)
    | _ => simp [vbB] at h
theorem compD_st {C : Nat → List D → Gs → R D} {e : Ex} {t : Tg} {env : Env} (P : D → Prop) (I : Gs → Prop) (xs : List D) (hl : xs.length ≤ 1000000) (h : ∀ a ∈ xs, ∀ g, I g → ∃ e1 y g', bindT t a (wipeS t.ix env) = some e1 ∧ evE C e e1 g = .ok y g' ∧ P y ∧ I g') (g : Gs) (hg : I g) :
    ∃ ys g', compD C e t [] env g (some xs) = .ok (.lst ys) g' ∧ ys.length = xs.length ∧ (∀ y ∈ ys, P y) ∧ I g' := by
  have key : ∀ (xs : List D), (∀ a ∈ xs, ∀ g, I g → ∃ e1 y g', bindT t a (wipeS t.ix env) = some e1 ∧ evE C e e1 g = .ok y g' ∧ P y ∧ I g') → ∀ g, I g → ∃ ys g', compL (fun env g => evE C e env g) (fun env g => evC C [] env g) t xs (wipeS t.ix env) g = .ok ys g' ∧ ys.length = xs.length ∧ (∀ y ∈ ys, P y) ∧ I g' := by
    intro xs
    induction xs with
    | nil => intro _ g hg; exact ⟨[], g, rfl, rfl, (fun y hy => (List.not_mem_nil hy).elim), hg⟩
    | cons a xs ih =>
      intro h g hg
      obtain ⟨e1, y, g1, b1, q, hp, hg1⟩ := h a (by simp) g hg
      obtain ⟨ys, g2, q2, hl, hp2, hg2⟩ := ih (fun b hb => h b (by simp [hb])) g1 hg1
      refine ⟨y :: ys, g2, ?_, by simp [hl], fun z hz => by
        rcases List.mem_cons.mp hz with rfl | hz
        · exact hp
        · exact hp2 z hz, hg2⟩
      unfold compL
      simp only [evC_nil] at q2
      simp only [b1, evC_nil, q, q2]
  obtain ⟨ys, g', q, r⟩ := key xs h g hg
  refine ⟨ys, g', ?_, r⟩
  unfold compD
  have hz : Nat.ble xs.length lineN = true := Nat.ble_eq_true_of_le (by simpa [lineN] using hl)
  simp only [hz, if_true, q]
theorem T_law_anything : TT i_law_anything = some d_law_anything := rfl
theorem T_law_bent_k01 : TT i_law_bent_k01 = some d_law_bent_k01 := rfl
def anyL : List D := [.int 0, .int 1, .int (-1), .int 2, .int 12, .int 13, .bl true, .bl false, .non, .str [], .str [102, 105, 108, 108], .str [116, 105, 112], .tup [], .lst [], .tup [.int 0, .int 1], .tup [.int 2, .int 4], .tup [.int 5, .int 1, .int 1],
  .tup [.str [116, 105, 112], .int 0], .tup [.str [102, 105, 108, 108], .int 0, .int 3], .int 1000000000000000000000000000000000000000]
def anyA : List St := [.asg 2 (.lst [.lit (.int 0), .lit (.int 1),
    .neg (.lit (.int 1)), .lit (.int 2), .lit (.int 12), .lit (.int 13), .lit (.bl true), .lit (.bl false), .lit (.non), .lit (.str []), .lit (.str [102, 105, 108,
    108]), .lit (.str [116, 105, 112]), .tup [], .lst [], .tup [.lit (.int 0), .lit (.int 1)], .tup [.lit (.int 2), .lit (.int 4)], .tup [.lit (.int 5),
    .lit (.int 1), .lit (.int 1)]]), .ret (.call i_law_some [.var 0, .op .add (.var 2) (.lst [.tup [.lit (.str [116, 105, 112]), .lit (.int 0)],
    .tup [.lit (.str [102, 105, 108, 108]), .lit (.int 0), .lit (.int 3)], .op .pow (.lit (.int 10)) (.lit (.int 39))])])]
theorem anyL_vb : ∀ d ∈ anyL, Vb 1 100 d := by
  have : anyL.all (vbB 1) = true := by decide +kernel
  exact fun d hd => vbB_ok 1 d (List.all_eq_true.mp this d hd)
theorem ev_anyA (f m : Nat) (g : Gs) (hs : Sv g m) (e1 e2 e3 e4 : Sl) : ∃ d g', evSs (evF TT (f + 2)) anyA [.p (.mref m), e1, e2, e3, e4] g = .ret d g' ∧ Vb 1 100 d ∧ Sv g' m := by
  obtain ⟨d, g', q, hd, hs'⟩ := some_l f m anyL g hs (by decide) (by decide)
  refine ⟨d, g', ?_, anyL_vb d hd, hs'⟩
  have h : evSs (evF TT (f + 2)) anyA [.p (.mref m), e1, e2, e3, e4] g = (evF TT (f + 2) i_law_some [.mref m, .lst anyL] g).to [.p (.mref m), e1, .p (.lst (anyL.take 17)), e3, e4] fun d g => .ret d g := by
    show evSs (evF TT (f + 2)) [_, .ret _] _ _ = _
    rw [evSs_cons, evS_asg]
    have h1 : evE (evF TT (f + 2)) (.lst [.lit (.int 0), .lit (.int 1),
    .neg (.lit (.int 1)), .lit (.int 2), .lit (.int 12), .lit (.int 13), .lit (.bl true), .lit (.bl false), .lit (.non), .lit (.str []), .lit (.str [102, 105, 108,
    108]), .lit (.str [116, 105, 112]), .tup [], .lst [], .tup [.lit (.int 0), .lit (.int 1)], .tup [.lit (.int 2), .lit (.int 4)], .tup [.lit (.int 5),
    .lit (.int 1), .lit (.int 1)]]) [.p (.mref m), e1, e2, e3, e4] g = .ok (.lst (anyL.take 17)) g := rfl
    rw [h1, to_ok]
    simp only [setS_z, setS_s, thenS_nx]
    rw [evSs_cons, evS_ret, evE_call, evEs_cons, evE_var]
    simp only [getS_z, slV_p, bind_ok]
    have h2 : evEs (evF TT (f + 2)) [.op .add (.var 2) (.lst [.tup [.lit (.str [116, 105, 112]), .lit (.int 0)],
    .tup [.lit (.str [102, 105, 108, 108]), .lit (.int 0), .lit (.int 3)], .op .pow (.lit (.int 10)) (.lit (.int 39))])] [.p (.mref m), e1, .p (.lst (anyL.take 17)), e3, e4] g = .ok [.lst anyL] g := rfl
    rw [h2, bind_ok]
    simp only [bind_ok, q, to_ok, thenS_ret]
  rw [h, q]
  rfl
theorem ev_anything : ∀ (dp f m : Nat) (g : Gs), dp ≤ 50 → Sv g m → ∃ d g', evF TT (f + dp + 3) i_law_anything [.mref m, .int (dp : Int)] g = .ok d g' ∧ Vb (dp + 1) 100 d ∧ Sv g' m := by
  intro dp
  have hb : b_law_anything = [.ite (.or_ (.op .eq (.var 1) (.lit (.int 0))) (.op .lt (.call i_law_sift [.var 0, .lit (.int 8)]) (.lit (.int 5)))) anyA [],
    .asg 3 (.comp (.call i_law_anything [.var 0, .op .sub (.var 1) (.lit (.int 1))]) (.nm 4) .rng [.call i_law_sift [.var 0, .lit (.int 4)]] []),
    .ret (.ite (.op .eq (.call i_law_sift [.var 0, .lit (.int 3)]) (.lit (.int 0))) (.var 3) (.bi .tuple [.var 3]))] := rfl
  induction dp with
  | zero =>
    intro f m g _ hs
    rw [evF_s T_law_anything, runF_eq rfl]
    show ∃ d g', outR (evSs (evF TT (f + 2)) b_law_anything [.p (.mref m), .p (.int 0), .u, .u, .u] g) = _ ∧ _
    obtain ⟨d, g', q, hd, hs'⟩ := ev_anyA f m g hs (.p (.int 0)) .u .u .u
    refine ⟨d, g', ?_, hd, hs'⟩
    rw [hb]
    generalize anyA = aa at *
    simp only [evSs_cons, evS_ite, evE_or, evE_op, evE_var, evE_lit, getS_z, getS_s, slV_p, bind_ok, op_eq_i, of_some, decide_true, iteD_bl, if_true, to_ok, q, thenS_ret, outR_ret]
  | succ dp ih =>
    intro f m g hdp hs
    rw [evF_s T_law_anything, runF_eq rfl]
    show ∃ d g', outR (evSs (evF TT (f + (dp + 1) + 2)) b_law_anything [.p (.mref m), .p (.int ((dp + 1 : Nat) : Int)), .u, .u, .u] g) = _ ∧ _
    have ne0 : ¬ (((dp + 1 : Nat) : Int) = 0) := by omega
    obtain ⟨r, g1, q1, r0, r8, hs1⟩ := sift_i (f + (dp + 1) + 1) m 8 g hs (by decide) (by decide)
    by_cases c : r < 5
    · obtain ⟨d, g', q, hd, hs'⟩ := ev_anyA (f + (dp + 1)) m g1 hs1 (.p (.int ((dp + 1 : Nat) : Int))) .u .u .u
      refine ⟨d, g', ?_, hd.up (by omega) (Nat.le_refl _), hs'⟩
      rw [hb]
      generalize anyA = aa at *
      simp only [evSs_cons, evS_ite, evE_or, evE_op, evE_call, evEs_cons, evEs_nil, evE_var, evE_lit, getS_z, getS_s, slV_p, bind_ok, op_eq_i, of_some, decide_eq_false ne0, iteD_bl, Bool.false_eq_true, if_false, q1, op_lt_i, decide_eq_true c, if_true, to_ok, q, thenS_ret, outR_ret]
    · obtain ⟨w, g2, q2, w0, w4, hs2⟩ := sift_i (f + (dp + 1) + 1) m 4 g1 hs1 (by decide) (by decide)
      have iw : items .rng [.int w] = some ((List.range w.toNat).map fun (i : Nat) => D.int (i : Int)) := by
        have := items_rng (n := w.toNat) (by omega)
        rw [Int.toNat_of_nonneg w0] at this
        exact this
      obtain ⟨ys, g3, q3, hl, hy, hs3⟩ := compD_st (C := evF TT (f + (dp + 1) + 2)) (e := .call i_law_anything [.var 0, .op .sub (.var 1) (.lit (.int 1))]) (t := .nm 4) (env := [.p (.mref m), .p (.int ((dp + 1 : Nat) : Int)), .u, .u, .u])
        (Vb (dp + 1) 100) (fun g => Sv g m) ((List.range w.toNat).map fun (i : Nat) => D.int (i : Int)) (by simp; omega) (fun a _ g hg => by
          obtain ⟨d, g', q, hd, hs'⟩ := ih f m g (by omega) hg
          refine ⟨[.p (.mref m), .p (.int ((dp + 1 : Nat) : Int)), .u, .u, .p a], d, g', rfl, ?_, hd, hs'⟩
          have e : ((dp + 1 : Nat) : Int) - 1 = (dp : Int) := by omega
          simp only [evE_call, evEs_cons, evEs_nil, evE_var, evE_op, evE_lit, getS_z, getS_s, slV_p, bind_ok, op_sub_i, of_some, e]
          exact q) g2 hs2
      obtain ⟨t, g4, q4, t0, t3, hs4⟩ := sift_i (f + (dp + 1) + 1) m 3 g3 hs3 (by decide) (by decide)
      have hl3 : ys.length ≤ 100 := by rw [hl]; simp; omega
      by_cases c3 : t = 0
      · refine ⟨.lst ys, g4, ?_, .lst _ _ _ hl3 hy, hs4⟩
        rw [hb]
        generalize anyA = aa at *
        simp only [evSs_cons, evSs_nil, evS_ite, evS_asg, evS_ret, evE_or, evE_op, evE_call, evE_comp, evE_ite, evE_bi, evEs_cons, evEs_nil, evE_var, evE_lit, getS_z, getS_s, setS_z, setS_s, slV_p, bind_ok, op_eq_i, of_some, decide_eq_false ne0, iteD_bl, Bool.false_eq_true, if_false, q1, op_lt_i, decide_eq_false c, if_true, to_ok, thenS_nx, q2, iw, q3, q4, decide_eq_true c3, thenS_ret, outR_ret]
      · refine ⟨.tup ys, g4, ?_, .tup _ _ _ hl3 hy, hs4⟩
        rw [hb]
        generalize anyA = aa at *
        simp only [evSs_cons, evSs_nil, evS_ite, evS_asg, evS_ret, evE_or, evE_op, evE_call, evE_comp, evE_ite, evE_bi, evEs_cons, evEs_nil, evE_var, evE_lit, getS_z, getS_s, setS_z, setS_s, slV_p, bind_ok, op_eq_i, of_some, decide_eq_false ne0, iteD_bl, Bool.false_eq_true, if_false, q1, op_lt_i, decide_eq_false c, if_true, to_ok, thenS_nx, q2, iw, q3, q4, decide_eq_false c3, tuple_l, thenS_ret, outR_ret]
end Rz
/-! RzG61 -/
set_option linter.all false
set_option maxRecDepth 100000
set_option exponentiation.threshold 20000
namespace Rz
/-! ### k01: bent data -/
def bentA : List St := [.asg 2 (.lst [.call i_law_anything [.var 0, .lit (.int 1)], .lst [.var 1]]),
    .ite (.bi .isstr [.var 1]) [.asg 2 (.op .add (.var 2) (.lst [.op .add (.var 1) (.lit (.str [115])), .lit (.str [112, 111, 117, 114]), .lit (.str [116, 105,
    112]), .meth .upper (.var 1) []]))] [.ite (.bi .isint [.var 1]) [.asg 2 (.op .add (.var 2) (.lst [.op .add (.var 1) (.lit (.int 1)),
    .op .sub (.var 1) (.lit (.int 1)), .op .add (.var 1) (.lit (.int 9)), .bi .tnot [.var 1]]))] []], .ret (.call i_law_some [.var 0, .var 2])]
theorem upC_lt {c : Nat} (h : c < 128) : upC c < 128 := by unfold upC; split <;> omega
theorem bent_leaf (f m k n : Nat) (d : D) (g : Gs) (hn : 100 ≤ n) (hn2 : n ≤ 800) (h : Vb k n d) (hs : Sv g m) (e2 e3 e4 : Sl) :
    ∃ x g', evSs (evF TT (f + 4)) bentA [.p (.mref m), .p d, e2, e3, e4] g = .ret x g' ∧ Vb (k + 2) (n + 1) x ∧ Sv g' m := by
  obtain ⟨a, g1, q1, ha, hs1⟩ := ev_anything 1 f m g (by decide) hs
  have q1 : evF TT (f + 4) i_law_anything [.mref m, .int 1] g = .ok a g1 := q1
  have va : Vb (k + 2) (n + 1) a := ha.up (by omega) (by omega)
  have vd : Vb (k + 2) (n + 1) (.lst [d]) := .lst _ _ _ (by simp) fun x hx => by
    rw [List.mem_singleton.mp hx]; exact h.up (by omega) (by omega)
  have fin : ∀ (l : List D) (e : Env) , getS e 0 = .p (.mref m) → getS e 2 = .p (.lst l) → 0 < l.length → l.length < 1000 → (∀ x ∈ l, Vb (k + 2) (n + 1) x) → ∃ x g', evSs (evF TT (f + 4)) [.ret (.call i_law_some [.var 0, .var 2])] e g1 = .ret x g' ∧ Vb (k + 2) (n + 1) x ∧ Sv g' m := fun l e h0 h2 hl hl2 hv => by
    obtain ⟨x, g', q, hx, hs'⟩ := some_l (f + 2) m l g1 hs1 hl hl2
    refine ⟨x, g', ?_, hv x hx, hs'⟩
    simp only [evSs_cons, evSs_nil, evS_ret, evE_call, evEs_cons, evEs_nil, evE_var, h0, h2, slV_p, bind_ok, q, to_ok, thenS_ret]
  have v2 : ∀ x ∈ [a, .lst [d]], Vb (k + 2) (n + 1) x := fun x hx => by
    simp only [List.mem_cons, List.not_mem_nil, or_false] at hx
    rcases hx with rfl | rfl
    · exact va
    · exact vd
  have hb : bentA = [.asg 2 (.lst [.call i_law_anything [.var 0, .lit (.int 1)], .lst [.var 1]]),
    .ite (.bi .isstr [.var 1]) [.asg 2 (.op .add (.var 2) (.lst [.op .add (.var 1) (.lit (.str [115])), .lit (.str [112, 111, 117, 114]), .lit (.str [116, 105,
    112]), .meth .upper (.var 1) []]))] [.ite (.bi .isint [.var 1]) [.asg 2 (.op .add (.var 2) (.lst [.op .add (.var 1) (.lit (.int 1)),
    .op .sub (.var 1) (.lit (.int 1)), .op .add (.var 1) (.lit (.int 9)), .bi .tnot [.var 1]]))] []]] ++ [.ret (.call i_law_some [.var 0, .var 2])] := rfl
  have nine : ∀ (i : Int) (t : D), i.natAbs < ZB n → (t = .bl true ∨ t = .bl false) → ∀ x ∈ [a, .lst [d], .int (i + 1), .int (i - 1), .int (i + 9), t], Vb (k + 2) (n + 1) x := fun i t hi ht x hx => by
    rw [ZB_eq] at hi
    have z : ∀ j : Int, j.natAbs < 10 ^ 40 + 10 * (n + 1) → Vb (k + 2) (n + 1) (.int j) := fun j hj => .int _ _ _ (by rw [ZB_eq]; exact hj)
    simp only [List.mem_cons, List.not_mem_nil, or_false] at hx
    rcases hx with rfl | rfl | rfl | rfl | rfl | rfl
    · exact va
    · exact vd
    · exact z _ (by omega)
    · exact z _ (by omega)
    · exact z _ (by omega)
    · rcases ht with rfl | rfl <;> exact .bl _ _ _
  cases h with
  | str k n s hl h2 =>
    have o1 : op2 .add (.str s) (.str [115]) = some (.str (s ++ [115])) := if_pos (Nat.ble_eq_true_of_le (by simp [lineN]; omega))
    have o2 : bi .upper [.str s] = some (.str (s.map upC)) := if_pos (by
      rw [Bool.and_eq_true]
      exact ⟨List.all_eq_true.mpr fun c hc => Nat.ble_eq_true_of_le (h2 c hc), Nat.ble_eq_true_of_le (by simp [lineN]; omega)⟩)
    have o3 : op2 .add (.lst [a, .lst [.str s]]) (.lst [.str (s ++ [115]), .str [112, 111, 117, 114], .str [116, 105, 112], .str (s.map upC)]) = some (.lst [a, .lst [.str s], .str (s ++ [115]), .str [112, 111, 117, 114], .str [116, 105, 112], .str (s.map upC)]) := rfl
    have ms : mtyp .upper (.str s) = true := rfl
    obtain ⟨x, g', q, hx, hs'⟩ := fin [a, .lst [.str s], .str (s ++ [115]), .str [112, 111, 117, 114], .str [116, 105, 112], .str (s.map upC)] [.p (.mref m), .p (.str s), .p (.lst [a, .lst [.str s], .str (s ++ [115]), .str [112, 111, 117, 114], .str [116, 105, 112], .str (s.map upC)]), e3, e4] rfl rfl (by simp) (by simp) fun x hx => by
      simp only [List.mem_cons, List.not_mem_nil, or_false] at hx
      rcases hx with rfl | rfl | rfl | rfl | rfl | rfl
      · exact va
      · exact vd
      · exact .str _ _ _ (by simp; omega) fun c hc => by
          rcases List.mem_append.mp hc with hc | hc
          · exact h2 c hc
          · rw [List.mem_singleton.mp hc]; decide
      · exact .str _ _ _ (by simp; omega) (by decide)
      · exact .str _ _ _ (by simp; omega) (by decide)
      · exact .str _ _ _ (by simp; omega) fun c hc => by
          obtain ⟨b, hb, rfl⟩ := List.mem_map.mp hc
          exact upC_lt (h2 b hb)
    refine ⟨x, g', ?_, hx, hs'⟩
    rw [hb]
    generalize hr : ([.ret (.call i_law_some [.var 0, .var 2])] : List St) = r at *
    simp only [List.cons_append, List.nil_append, evSs_cons, evSs_nil, evS_asg, evS_ite, evE_lst, evE_call, evE_op, evE_bi, evE_meth, evE_lit, evEs_cons, evEs_nil, evE_var, getS_z, getS_s, setS_z, setS_s, slV_p, bind_ok, q1, to_ok, thenS_nx, isstr_s, of_some, iteD_bl, if_true, o1, o2, o3, ms, q]
  | int k n i hi =>
    have i1 : bi .isstr [.int i] = some (.bl false) := rfl
    have i2 : bi .tnot [.int i] = some (.bl (i == 0)) := rfl
    have o3 : op2 .add (.lst [a, .lst [.int i]]) (.lst [.int (i + 1), .int (i - 1), .int (i + 9), .bl (i == 0)]) = some (.lst [a, .lst [.int i], .int (i + 1), .int (i - 1), .int (i + 9), .bl (i == 0)]) := rfl
    obtain ⟨x, g', q, hx, hs'⟩ := fin [a, .lst [.int i], .int (i + 1), .int (i - 1), .int (i + 9), .bl (i == 0)] [.p (.mref m), .p (.int i), .p (.lst [a, .lst [.int i], .int (i + 1), .int (i - 1), .int (i + 9), .bl (i == 0)]), e3, e4] rfl rfl (by simp) (by simp) (nine i _ hi (by cases i == 0 <;> simp))
    refine ⟨x, g', ?_, hx, hs'⟩
    rw [hb]
    generalize hr : ([.ret (.call i_law_some [.var 0, .var 2])] : List St) = r at *
    simp only [List.cons_append, List.nil_append, evSs_cons, evSs_nil, evS_asg, evS_ite, evE_lst, evE_call, evE_op, evE_bi, evE_meth, evE_lit, evEs_cons, evEs_nil, evE_var, getS_z, getS_s, setS_z, setS_s, slV_p, bind_ok, q1, to_ok, thenS_nx, i1, isint_i, of_some, iteD_bl, if_true, Bool.false_eq_true, if_false, op_add_i, op_sub_i, i2, o3, q]
  | bl k n b =>
    have i1 : bi .isstr [.bl b] = some (.bl false) := rfl
    have i0 : bi .isint [.bl b] = some (.bl true) := rfl
    have i2 : bi .tnot [.bl b] = some (.bl (!b)) := rfl
    have o4 : ∀ j : Int, op2 .add (.bl b) (.int j) = some (.int ((if b = true then 1 else 0) + j)) := fun j => rfl
    have o5 : ∀ j : Int, op2 .sub (.bl b) (.int j) = some (.int ((if b = true then 1 else 0) - j)) := fun j => rfl
    have hi : (if b = true then (1 : Int) else 0).natAbs < ZB n := by
      rw [ZB_eq]; cases b <;> simp <;> omega
    generalize (if b = true then (1 : Int) else 0) = i at *
    have o3 : op2 .add (.lst [a, .lst [.bl b]]) (.lst [.int (i + 1), .int (i - 1), .int (i + 9), .bl (!b)]) = some (.lst [a, .lst [.bl b], .int (i + 1), .int (i - 1), .int (i + 9), .bl (!b)]) := rfl
    obtain ⟨x, g', q, hx, hs'⟩ := fin [a, .lst [.bl b], .int (i + 1), .int (i - 1), .int (i + 9), .bl (!b)] [.p (.mref m), .p (.bl b), .p (.lst [a, .lst [.bl b], .int (i + 1), .int (i - 1), .int (i + 9), .bl (!b)]), e3, e4] rfl rfl (by simp) (by simp) (nine i _ hi (by cases b <;> simp))
    refine ⟨x, g', ?_, hx, hs'⟩
    rw [hb]
    generalize hr : ([.ret (.call i_law_some [.var 0, .var 2])] : List St) = r at *
    simp only [List.cons_append, List.nil_append, evSs_cons, evSs_nil, evS_asg, evS_ite, evE_lst, evE_call, evE_op, evE_bi, evE_meth, evE_lit, evEs_cons, evEs_nil, evE_var, getS_z, getS_s, setS_z, setS_s, slV_p, bind_ok, q1, to_ok, thenS_nx, i1, i0, of_some, iteD_bl, if_true, Bool.false_eq_true, if_false, o4, o5, i2, o3, q]
  | non k n =>
    have i1 : bi .isstr [.non] = some (.bl false) := rfl
    have i0 : bi .isint [.non] = some (.bl false) := rfl
    obtain ⟨x, g', q, hx, hs'⟩ := fin [a, .lst [.non]] [.p (.mref m), .p .non, .p (.lst [a, .lst [.non]]), e3, e4] rfl rfl (by simp) (by simp) v2
    refine ⟨x, g', ?_, hx, hs'⟩
    rw [hb]
    generalize hr : ([.ret (.call i_law_some [.var 0, .var 2])] : List St) = r at *
    simp only [List.cons_append, List.nil_append, evSs_cons, evSs_nil, evS_asg, evS_ite, evE_lst, evE_call, evE_bi, evE_lit, evEs_cons, evEs_nil, evE_var, getS_z, getS_s, setS_z, setS_s, slV_p, bind_ok, q1, to_ok, thenS_nx, i1, i0, of_some, iteD_bl, Bool.false_eq_true, if_false, q]
  | tup k n ds =>
    have i1 : bi .isstr [.tup ds] = some (.bl false) := rfl
    have i0 : bi .isint [.tup ds] = some (.bl false) := rfl
    obtain ⟨x, g', q, hx, hs'⟩ := fin [a, .lst [.tup ds]] [.p (.mref m), .p (.tup ds), .p (.lst [a, .lst [.tup ds]]), e3, e4] rfl rfl (by simp) (by simp) v2
    refine ⟨x, g', ?_, hx, hs'⟩
    rw [hb]
    generalize hr : ([.ret (.call i_law_some [.var 0, .var 2])] : List St) = r at *
    simp only [List.cons_append, List.nil_append, evSs_cons, evSs_nil, evS_asg, evS_ite, evE_lst, evE_call, evE_bi, evE_lit, evEs_cons, evEs_nil, evE_var, getS_z, getS_s, setS_z, setS_s, slV_p, bind_ok, q1, to_ok, thenS_nx, i1, i0, of_some, iteD_bl, Bool.false_eq_true, if_false, q]
  | lst k n ds =>
    have i1 : bi .isstr [.lst ds] = some (.bl false) := rfl
    have i0 : bi .isint [.lst ds] = some (.bl false) := rfl
    obtain ⟨x, g', q, hx, hs'⟩ := fin [a, .lst [.lst ds]] [.p (.mref m), .p (.lst ds), .p (.lst [a, .lst [.lst ds]]), e3, e4] rfl rfl (by simp) (by simp) v2
    refine ⟨x, g', ?_, hx, hs'⟩
    rw [hb]
    generalize hr : ([.ret (.call i_law_some [.var 0, .var 2])] : List St) = r at *
    simp only [List.cons_append, List.nil_append, evSs_cons, evSs_nil, evS_asg, evS_ite, evE_lst, evE_call, evE_bi, evE_lit, evEs_cons, evEs_nil, evE_var, getS_z, getS_s, setS_z, setS_s, slV_p, bind_ok, q1, to_ok, thenS_nx, i1, i0, of_some, iteD_bl, Bool.false_eq_true, if_false, q]
theorem slice_both_t (ds : List D) (p : Nat) (h : p < ds.length) : ∃ es, slD .both (.tup ds) [.int (p : Int), .int ((p : Int) + 1)] = some (.tup es) ∧ es.length ≤ 1 ∧ ∀ e ∈ es, e ∈ ds := by
  refine ⟨cut ds (some (p : Int)) (some ((p : Int) + 1)), rfl, ?_, fun e he => List.mem_of_mem_drop (List.mem_of_mem_take he)⟩
  unfold cut sIx
  simp only
  rw [if_neg (by omega), if_neg (by omega), List.length_take]
  omega
theorem mul2_t (es : List D) (h : es.length ≤ 1) : op2 .mul (.tup es) (.int 2) = some (.tup (es ++ es)) := by
  show (if shortI 2 && Nat.ble (es.length * 2) lineN then some (D.tup (List.replicate 2 es).flatten) else none) = _
  rw [if_pos (by rw [Bool.and_eq_true]; exact ⟨rfl, Nat.ble_eq_true_of_le (by simp [lineN]; omega)⟩)]
  simp [List.replicate]
theorem rev_t (ds : List D) (h : ds.length ≤ 1000) : slD .rev (.tup ds) [] = some (.tup ds.reverse) := if_pos (Nat.ble_eq_true_of_le (by simp only [lineN]; omega))
theorem list_t (ds : List D) : bi .list [.tup ds] = some (.lst ds) := rfl
def bentB : List St := [.par [(false,
    3), (false, 4)] [.call i_law_sift [.var 0, .bi .len [.var 1]], .call i_law_sift [.var 0, .lit (.int 8)]],
    .ite (.op .eq (.var 4) (.lit (.int 0))) [.ret (.op .add (.sl .hi (.var 1) [.var 3]) (.sl .lo (.var 1) [.op .add (.var 3) (.lit (.int 1))]))] [],
    .ite (.op .eq (.var 4) (.lit (.int 1))) [.ret (.op .add (.op .add (.sl .hi (.var 1) [.var 3]) (.op .mul (.sl .both (.var 1) [.var 3,
    .op .add (.var 3) (.lit (.int 1))]) (.lit (.int 2)))) (.sl .lo (.var 1) [.op .add (.var 3) (.lit (.int 1))]))] [],
    .ite (.op .eq (.var 4) (.lit (.int 2))) [.ret (.sl .rev (.var 1) [])] [], .ite (.op .eq (.var 4) (.lit (.int 3))) [.ret (.bi .list [.var 1])] [],
    .ret (.op .add (.op .add (.sl .hi (.var 1) [.var 3]) (.tup [.call i_law_bent_k01 [.var 0,
    .ix (.var 1) (.var 3)]])) (.sl .lo (.var 1) [.op .add (.var 3) (.lit (.int 1))]))]
theorem bent_eq : b_law_bent_k01 = .ite (.or_ (.not (.bi .istup [.var 1])) (.or_ (.op .eq (.var 1) (.tup [])) (.op .eq (.call i_law_sift [.var 0,
    .lit (.int 6)]) (.lit (.int 0))))) bentA [] :: bentB := rfl
theorem ev_bent : ∀ (k f m n : Nat) (d : D) (g : Gs), k ≤ 50 → 100 ≤ n → n ≤ 800 → Vb k n d → Sv g m → ∃ x g', evF TT (f + k + 6) i_law_bent_k01 [.mref m, d] g = .ok x g' ∧ Vb (k + 2) (n + 1) x ∧ Sv g' m := by
  have leaf : ∀ (k f m n : Nat) (d : D) (g : Gs), 100 ≤ n → n ≤ 800 → Vb k n d → Sv g m → bi .istup [d] = some (.bl false) → ∃ x g', evF TT (f + 6) i_law_bent_k01 [.mref m, d] g = .ok x g' ∧ Vb (k + 2) (n + 1) x ∧ Sv g' m := fun k f m n d g hn hn2 h hs it => by
    obtain ⟨x, g', q, hx, hs'⟩ := bent_leaf (f + 1) m k n d g hn hn2 h hs .u .u .u
    refine ⟨x, g', ?_, hx, hs'⟩
    rw [evF_s T_law_bent_k01, runF_eq rfl]
    show outR (evSs (evF TT (f + 5)) b_law_bent_k01 [.p (.mref m), .p d, .u, .u, .u] g) = _
    rw [bent_eq]
    generalize bentA = ba at *
    generalize bentB = bb at *
    simp only [evSs_cons, evS_ite, evE_or, evE_not, evE_bi, evEs_cons, evEs_nil, evE_var, getS_z, getS_s, slV_p, bind_ok, it, of_some, notD_bl, Bool.not_false, iteD_bl, if_true, to_ok, q, thenS_ret, outR_ret]
  intro k
  induction k with
  | zero =>
    intro f m n d g _ hn hn2 h hs
    exact leaf 0 f m n d g hn hn2 h hs (by cases h <;> rfl)
  | succ k ih =>
    intro f m n d g hk hn hn2 h hs
    obtain ⟨t, it, ib⟩ := istup_d h
    cases t with
    | false => exact leaf (k + 1) (f + (k + 1)) m n d g hn hn2 h hs it
    | true =>
    obtain ⟨ds, rfl⟩ := ib rfl
    have hl : ds.length ≤ n := h.tup_len
    have hds : ∀ d ∈ ds, Vb k n d := by cases h with | tup k n ds h h2 => exact h2
    obtain ⟨r, g1, q1, r0, r6, hs1⟩ := sift_i (f + (k + 1) + 4) m 6 g hs (by decide) (by decide)
    have nil : bi .istup [.tup ds] = some (.bl true) := rfl
    have eqn : op2 .eq (.tup ds) (.tup []) = some (.bl ds.isEmpty) := by
      cases ds with
      | nil => rfl
      | cons a r => exact eq_cons_nil a r (h.pl (by omega)).shp
    rw [evF_s T_law_bent_k01, runF_eq rfl]
    show ∃ x g', outR (evSs (evF TT (f + (k + 1) + 5)) b_law_bent_k01 [.p (.mref m), .p (.tup ds), .u, .u, .u] g) = _ ∧ _
    rw [bent_eq]
    by_cases c0 : ds.isEmpty = true
    · rw [c0] at eqn
      obtain ⟨x, g', q, hx, hs'⟩ := bent_leaf (f + (k + 1) + 1) m (k + 1) n (.tup ds) g hn hn2 h hs .u .u .u
      refine ⟨x, g', ?_, hx, hs'⟩
      generalize bentA = ba at *
      generalize bentB = bb at *
      simp only [evSs_cons, evS_ite, evE_or, evE_not, evE_op, evE_tup, evE_bi, evEs_cons, evEs_nil, evE_var, getS_z, getS_s, slV_p, bind_ok, nil, eqn, of_some, notD_bl, Bool.not_true, Bool.false_eq_true, if_false, iteD_bl, if_true, to_ok, q, thenS_ret, outR_ret]
    have c0 : ds.isEmpty = false := by cases c : ds.isEmpty <;> simp_all
    rw [c0] at eqn
    have hpos : 0 < ds.length := by cases ds with | nil => cases c0 | cons a r => simp
    by_cases c1 : r = 0
    · obtain ⟨x, g', q, hx, hs'⟩ := bent_leaf (f + (k + 1) + 1) m (k + 1) n (.tup ds) g1 hn hn2 h hs1 .u .u .u
      refine ⟨x, g', ?_, hx, hs'⟩
      generalize bentA = ba at *
      generalize bentB = bb at *
      simp only [evSs_cons, evS_ite, evE_or, evE_not, evE_op, evE_tup, evE_bi, evE_call, evE_lit, evEs_cons, evEs_nil, evE_var, getS_z, getS_s, slV_p, bind_ok, nil, eqn, of_some, notD_bl, Bool.not_true, Bool.false_eq_true, if_false, iteD_bl, q1, op_eq_i, decide_eq_true c1, if_true, to_ok, q, thenS_ret, outR_ret]
    have st : evS (evF TT (f + (k + 1) + 5)) (.ite (.or_ (.not (.bi .istup [.var 1])) (.or_ (.op .eq (.var 1) (.tup [])) (.op .eq (.call i_law_sift [.var 0,
    .lit (.int 6)]) (.lit (.int 0))))) bentA []) [.p (.mref m), .p (.tup ds), .u, .u, .u] g = .nx [.p (.mref m), .p (.tup ds), .u, .u, .u] g1 := by
      generalize bentA = ba at *
      simp only [evSs_nil, evS_ite, evE_or, evE_not, evE_op, evE_tup, evE_bi, evE_call, evE_lit, evEs_cons, evEs_nil, evE_var, getS_z, getS_s, slV_p, bind_ok, nil, eqn, of_some, notD_bl, Bool.not_true, Bool.false_eq_true, if_false, iteD_bl, q1, op_eq_i, decide_eq_false c1, to_ok]
    obtain ⟨at', g2, q2, a1, hs2⟩ := sift_n (f + (k + 1) + 4) m ds.length g1 hs1 hpos (by omega)
    obtain ⟨kd, g3, q3, k0, k8, hs3⟩ := sift_i (f + (k + 1) + 4) m 8 g2 hs2 (by decide) (by decide)
    have e1 : (at' : Int) + 1 = ((at' + 1 : Nat) : Int) := by omega
    have s1 := slice_hi ds at' (by omega)
    have s2 := slice_lo ds (at' + 1) (by omega)
    rw [← e1] at s2
    have up1 : ∀ x ∈ ds, Vb (k + 2) (n + 1) x := fun x hx => (hds x hx).up (by omega) (by omega)
    have mt : ∀ x ∈ ds.take at', x ∈ ds := fun x hx => List.mem_of_mem_take hx
    have md : ∀ x ∈ ds.drop (at' + 1), x ∈ ds := fun x hx => List.mem_of_mem_drop hx
    rw [evSs_cons, st, thenS_nx]
    by_cases d0 : kd = 0
    · have o := op_add_t (a := ds.take at') (b := ds.drop (at' + 1)) (by rw [List.length_take, List.length_drop]; omega)
      refine ⟨.tup (ds.take at' ++ ds.drop (at' + 1)), g3, ?_, .tup _ _ _ (by rw [List.length_append, List.length_take, List.length_drop]; omega) fun x hx => ?_, hs3⟩
      · simp only [bentB, evSs_cons, evSs_nil, evS_par, evS_ite, evS_ret, evE_op, evE_sl, evE_bi, evE_call, evE_lit, evEs_cons, evEs_nil, evIs_cons, evIs_nil, toI_int, evE_var, getS_z, getS_s, setS_z, setS_s, slV_p, bind_ok, len_t, of_some, q2, q3, parD_ok, setPar_cons, setPar_nil, Bool.false_and, Bool.false_eq_true, if_false, nxO_some, thenS_nx, op_eq_i, decide_eq_true d0, iteD_bl, if_true, s1, op_add_i, s2, o, to_ok, thenS_ret, outR_ret]
      · rcases List.mem_append.mp hx with hx | hx
        · exact up1 x (mt x hx)
        · exact up1 x (md x hx)
    by_cases d1 : kd = 1
    · obtain ⟨es, s3, el, em⟩ := slice_both_t ds at' a1
      have o1 := op_add_t (a := ds.take at') (b := es ++ es) (by rw [List.length_take, List.length_append]; omega)
      have o2 := op_add_t (a := ds.take at' ++ (es ++ es)) (b := ds.drop (at' + 1)) (by rw [List.length_append, List.length_append, List.length_take, List.length_drop]; omega)
      refine ⟨.tup (ds.take at' ++ (es ++ es) ++ ds.drop (at' + 1)), g3, ?_, .tup _ _ _ (by rw [List.length_append, List.length_append, List.length_append, List.length_take, List.length_drop]; omega) fun x hx => ?_, hs3⟩
      · simp only [bentB, evSs_cons, evSs_nil, evS_par, evS_ite, evS_ret, evE_op, evE_sl, evE_bi, evE_call, evE_lit, evEs_cons, evEs_nil, evIs_cons, evIs_nil, toI_int, evE_var, getS_z, getS_s, setS_z, setS_s, slV_p, bind_ok, len_t, of_some, q2, q3, parD_ok, setPar_cons, setPar_nil, Bool.false_and, Bool.false_eq_true, if_false, nxO_some, thenS_nx, op_eq_i, decide_eq_false d0, decide_eq_true d1, iteD_bl, if_true, s1, op_add_i, s2, s3, mul2_t es el, o1, o2, to_ok, thenS_ret, outR_ret]
      · rcases List.mem_append.mp hx with hx | hx
        · rcases List.mem_append.mp hx with hx | hx
          · exact up1 x (mt x hx)
          · rcases List.mem_append.mp hx with hx | hx <;> exact up1 x (em x hx)
        · exact up1 x (md x hx)
    by_cases d2 : kd = 2
    · have s3 := rev_t ds (by omega)
      refine ⟨.tup ds.reverse, g3, ?_, .tup _ _ _ (by rw [List.length_reverse]; omega) fun x hx => up1 x (List.mem_reverse.mp hx), hs3⟩
      simp only [bentB, evSs_cons, evSs_nil, evS_par, evS_ite, evS_ret, evE_op, evE_sl, evE_bi, evE_call, evE_lit, evEs_cons, evEs_nil, evIs_cons, evIs_nil, toI_int, evE_var, getS_z, getS_s, setS_z, setS_s, slV_p, bind_ok, len_t, of_some, q2, q3, parD_ok, setPar_cons, setPar_nil, Bool.false_and, Bool.false_eq_true, if_false, nxO_some, thenS_nx, op_eq_i, decide_eq_false d0, decide_eq_false d1, decide_eq_true d2, iteD_bl, if_true, s3, to_ok, thenS_ret, outR_ret]
    by_cases d3 : kd = 3
    · refine ⟨.lst ds, g3, ?_, .lst _ _ _ (by omega) up1, hs3⟩
      simp only [bentB, evSs_cons, evSs_nil, evS_par, evS_ite, evS_ret, evE_op, evE_sl, evE_bi, evE_call, evE_lit, evEs_cons, evEs_nil, evIs_cons, evIs_nil, toI_int, evE_var, getS_z, getS_s, setS_z, setS_s, slV_p, bind_ok, len_t, of_some, q2, q3, parD_ok, setPar_cons, setPar_nil, Bool.false_and, Bool.false_eq_true, if_false, nxO_some, thenS_nx, op_eq_i, decide_eq_false d0, decide_eq_false d1, decide_eq_false d2, decide_eq_true d3, iteD_bl, if_true, list_t, to_ok, thenS_ret, outR_ret]
    · obtain ⟨y, g4, q4, hy, hs4⟩ := ih f m n ds[at'] g3 (by omega) hn hn2 (hds _ (List.getElem_mem a1)) hs3
      have q4 : evF TT (f + (k + 1) + 5) i_law_bent_k01 [.mref m, ds[at']] g3 = .ok y g4 := q4
      have ix : ixD g3 (.tup ds) (.int (at' : Int)) = some ds[at'] := by rw [ix_tn, List.getElem?_eq_getElem a1]
      have o1 := op_add_t (a := ds.take at') (b := [y]) (by rw [List.length_take]; simp; omega)
      have o2 := op_add_t (a := ds.take at' ++ [y]) (b := ds.drop (at' + 1)) (by rw [List.length_append, List.length_take, List.length_drop]; simp; omega)
      refine ⟨.tup (ds.take at' ++ [y] ++ ds.drop (at' + 1)), g4, ?_, .tup _ _ _ (by rw [List.length_append, List.length_append, List.length_take, List.length_drop]; simp; omega) fun x hx => ?_, hs4⟩
      · simp only [bentB, evSs_cons, evSs_nil, evS_par, evS_ite, evS_ret, evE_op, evE_sl, evE_ix, evE_tup, evE_bi, evE_call, evE_lit, evEs_cons, evEs_nil, evIs_cons, evIs_nil, toI_int, evE_var, getS_z, getS_s, setS_z, setS_s, slV_p, bind_ok, len_t, of_some, q2, q3, parD_ok, setPar_cons, setPar_nil, Bool.false_and, Bool.false_eq_true, if_false, nxO_some, thenS_nx, op_eq_i, decide_eq_false d0, decide_eq_false d1, decide_eq_false d2, decide_eq_false d3, iteD_bl, s1, ix, q4, o1, op_add_i, s2, o2, to_ok, thenS_ret, outR_ret]
      · rcases List.mem_append.mp hx with hx | hx
        · rcases List.mem_append.mp hx with hx | hx
          · exact up1 x (mt x hx)
          · rw [List.mem_singleton.mp hx]; exact hy.up (by omega) (by omega)
        · exact up1 x (md x hx)
end Rz
/-! RzG62 -/
set_option linter.all false
set_option maxRecDepth 100000
set_option maxHeartbeats 0
set_option exponentiation.threshold 20000
namespace Rz
/-! ### the law k01 -/
theorem T_law_k01 : TT i_law_k01 = some d_law_k01 := rfl
def k01Rows : List St := [.par [(false, 7), (false, 8)] [.tup [.lit (.int 5),
    .lit (.int 1), .lit (.int 1)], .tup [.tup [.tup [.lit (.int 5), .lit (.int 1), .lit (.int 1)]], .tup [.tup [.lit (.str [102, 105, 108, 108]), .lit (.int 0),
    .lit (.int 4)], .tup [.lit (.str [116, 105, 112]), .lit (.int 0)]]]], .own 9 (.lst [.var 8, .tup [.op .mul (.tup [.var 7]) (.lit (.int 3)),
    .ix (.var 8) (.lit (.int 1))], .tup [.op .mul (.tup [.var 7]) (.lit (.int 4)), .ix (.var 8) (.lit (.int 1))], .tup [.tup [], .ix (.var 8) (.lit (.int 1))],
    .tup [.tup [.var 7], .tup []]]), .frz [9], .own 9 (.op .add (.var 9) (.lst [.tup [.tup [.var 7], .op .mul (.tup [.tup [.lit (.str [116, 105, 112]),
    .lit (.int 0)]]) (.lit (.int 8))], .tup [.tup [.var 7], .op .mul (.tup [.tup [.lit (.str [116, 105, 112]), .lit (.int 0)]]) (.lit (.int 9))],
    .tup [.tup [.var 7], .tup [.tup [.lit (.str [102, 105, 108, 108]), .lit (.int 0), .lit (.int 4)]]]])), .frz [9],
    .own 9 (.op .add (.var 9) (.lst [.tup [.tup [.var 7], .tup [.tup [.lit (.str [116, 105, 112]), .lit (.int 1)]]], .tup [.tup [.tup [.lit (.int 13),
    .lit (.int 1), .lit (.int 1)]], .ix (.var 8) (.lit (.int 1))], .tup [.tup [.tup [.lit (.int 2), .lit (.int 2), .lit (.int 2)]],
    .ix (.var 8) (.lit (.int 1))]])), .frz [9], .own 9 (.op .add (.var 9) (.lst [.tup [.tup [.tup [.lit (.int 12), .lit (.int 11), .lit (.int 12)]],
    .tup [.tup [.lit (.str [116, 105, 112]), .lit (.int 0)], .tup [.lit (.str [102, 105, 108, 108]), .lit (.int 0), .lit (.int 12)]]],
    .tup [.tup [.tup [.lit (.int 5), .lit (.int 1), .lit (.int 0)]], .ix (.var 8) (.lit (.int 1))]])), .frz [9],
    .own 9 (.op .add (.var 9) (.lst [.tup [.tup [.var 7, .var 7], .tup [.tup [.lit (.str [112, 111, 117, 114]), .lit (.int 0), .lit (.int 0), .lit (.int 1)]]],
    .tup [.tup [.var 7, .var 7], .tup [.tup [.lit (.str [112, 111, 117, 114]), .lit (.int 0), .lit (.int 1), .lit (.int 12)]]]])), .app 9 (.tup [.tup [.var 7,
    .var 7], .tup [.tup [.lit (.str [112, 111, 117, 114]), .lit (.int 0), .lit (.int 1), .lit (.int 13)]]]), .frz [9]]
def k01Inner : List St := [.asg 5 (.call i_law_some [.var 2, .lst [.var 3, .var 3, .call i_law_dirt [.var 2,
    .bi .len [.ix (.var 3) (.lit (.int 0))]]]]), .asg 6 (.lst [.var 5, .call i_law_bent_k01 [.var 2, .var 5], .call i_law_bent_k01 [.var 2,
    .call i_law_bent_k01 [.var 2, .var 5]]]), .ite (.not (.call i_law_right_k01 [.var 3, .call i_law_some [.var 2,
    .op .add (.var 6) (.lst [.call i_law_anything [.var 2, .lit (.int 2)]])]])) [.ret (.lit (.bl false))] []]
def k01D : List D := [.tup [.tup [.tup [.int 5, .int 1, .int 1]], .tup [.tup [.str [102, 105, 108, 108], .int 0, .int 4], .tup [.str [116, 105, 112], .int 0]]],
    .tup [.tup [.tup [.int 5, .int 1, .int 1], .tup [.int 5, .int 1, .int 1], .tup [.int 5, .int 1, .int 1]], .tup [.tup [.str [102, 105, 108, 108], .int 0, .int 4], .tup [.str [116, 105, 112], .int 0]]],
    .tup [.tup [.tup [.int 5, .int 1, .int 1], .tup [.int 5, .int 1, .int 1], .tup [.int 5, .int 1, .int 1], .tup [.int 5, .int 1, .int 1]], .tup [.tup [.str [102, 105, 108, 108], .int 0, .int 4], .tup [.str [116, 105, 112], .int 0]]],
    .tup [.tup [], .tup [.tup [.str [102, 105, 108, 108], .int 0, .int 4], .tup [.str [116, 105, 112], .int 0]]],
    .tup [.tup [.tup [.int 5, .int 1, .int 1]], .tup []],
    .tup [.tup [.tup [.int 5, .int 1, .int 1]], .tup [.tup [.str [116, 105, 112], .int 0], .tup [.str [116, 105, 112], .int 0], .tup [.str [116, 105, 112], .int 0], .tup [.str [116, 105, 112], .int 0], .tup [.str [116, 105, 112], .int 0], .tup [.str [116, 105, 112], .int 0], .tup [.str [116, 105, 112], .int 0], .tup [.str [116, 105, 112], .int 0]]],
    .tup [.tup [.tup [.int 5, .int 1, .int 1]], .tup [.tup [.str [116, 105, 112], .int 0], .tup [.str [116, 105, 112], .int 0], .tup [.str [116, 105, 112], .int 0], .tup [.str [116, 105, 112], .int 0], .tup [.str [116, 105, 112], .int 0], .tup [.str [116, 105, 112], .int 0], .tup [.str [116, 105, 112], .int 0], .tup [.str [116, 105, 112], .int 0], .tup [.str [116, 105, 112], .int 0]]],
    .tup [.tup [.tup [.int 5, .int 1, .int 1]], .tup [.tup [.str [102, 105, 108, 108], .int 0, .int 4]]],
    .tup [.tup [.tup [.int 5, .int 1, .int 1]], .tup [.tup [.str [116, 105, 112], .int 1]]],
    .tup [.tup [.tup [.int 13, .int 1, .int 1]], .tup [.tup [.str [102, 105, 108, 108], .int 0, .int 4], .tup [.str [116, 105, 112], .int 0]]],
    .tup [.tup [.tup [.int 2, .int 2, .int 2]], .tup [.tup [.str [102, 105, 108, 108], .int 0, .int 4], .tup [.str [116, 105, 112], .int 0]]],
    .tup [.tup [.tup [.int 12, .int 11, .int 12]], .tup [.tup [.str [116, 105, 112], .int 0], .tup [.str [102, 105, 108, 108], .int 0, .int 12]]],
    .tup [.tup [.tup [.int 5, .int 1, .int 0]], .tup [.tup [.str [102, 105, 108, 108], .int 0, .int 4], .tup [.str [116, 105, 112], .int 0]]],
    .tup [.tup [.tup [.int 5, .int 1, .int 1], .tup [.int 5, .int 1, .int 1]], .tup [.tup [.str [112, 111, 117, 114], .int 0, .int 0, .int 1]]],
    .tup [.tup [.tup [.int 5, .int 1, .int 1], .tup [.int 5, .int 1, .int 1]], .tup [.tup [.str [112, 111, 117, 114], .int 0, .int 1, .int 12]]],
    .tup [.tup [.tup [.int 5, .int 1, .int 1], .tup [.int 5, .int 1, .int 1]], .tup [.tup [.str [112, 111, 117, 114], .int 0, .int 1, .int 13]]]]
def k01Cup : D := .tup [.int 5, .int 1, .int 1]
def k01Plain : D := .tup [.tup [.tup [.int 5, .int 1, .int 1]], .tup [.tup [.str [102, 105, 108, 108], .int 0, .int 4], .tup [.str [116, 105, 112], .int 0]]]
theorem k01_rows {C : Nat → List D → Gs → R D} {g : Gs} (e0 e1 e2 e3 e4 e5 e6 e7 e8 e9 : Sl) : evSs C k01Rows [e0, e1, e2, e3, e4, e5, e6, e7, e8, e9] g = .nx [e0, e1, e2, e3, e4, e5, e6, .p k01Cup, .p k01Plain, .p (.lst k01D)] g := rfl
theorem k01D_vb : ∀ d ∈ k01D, Vb 4 100 d := by
  have : k01D.all (vbB 4) = true := by decide +kernel
  exact fun d hd => vbB_ok 4 d (List.all_eq_true.mp this d hd)
theorem evSs_app {C : Nat → List D → Gs → R D} (b : List St) : ∀ (a : List St) (env : Env) (g : Gs), evSs C (a ++ b) env g = thenS C b (evSs C a env g) := by
  intro a
  induction a with
  | nil => intro env g; rfl
  | cons s a ih =>
    intro env g
    rw [List.cons_append, evSs_cons, evSs_cons]
    cases evS C s env g with
    | nx env g => simp only [thenS_nx, ih]
    | _ => rfl
def k01PlV : Ves := ⟨fun _ => 5, fun _ => 1, fun _ => 1⟩
def k01PlS : List Stp := [.fill 0 4, .tip 0]
theorem k01_plain : k01Plain = wayD 1 k01PlV k01PlS := rfl
theorem k01_plain_ok : WayOk 1 k01PlV k01PlS where
  n0 := by decide
  n3 := by decide
  vok := fun i _ => ⟨by show (2 : Int) ≤ 5; decide, by show (5 : Int) ≤ 12; decide, by show (1 : Int) ≤ 1; decide, by show (1 : Int) ≤ 5 - 1; decide, by show (1 : Int) ≤ 1; decide, by show (1 : Int) ≤ 5; decide⟩
  s0 := by decide
  s8 := by decide
  sok := fun s hs => by
    simp only [k01PlS, List.mem_cons, List.not_mem_nil, or_false] at hs
    rcases hs with rfl | rfl
    · show 0 < 1 ∧ (1 : Int) ≤ 4 ∧ (4 : Int) ≤ 12; decide
    · show 0 < 1; decide
  back := fun i hi => by
    have : i = 0 := by omega
    subst this; rfl
theorem k01_end {C : Nat → List D → Gs → R D} (g : Gs) (hC : ∀ d ∈ k01D, ∀ g, C i_law_right_k01 [k01Plain, d] g = .ok (.bl true) g) (e0 e1 e2 e3 e4 e5 e6 e7 : Sl) :
    evSs C [.ret (.op .eq (.comp (.var 5) (.nm 5) .seq [.var 9] [.not (.call i_law_right_k01 [.var 8, .var 5])]) (.lst []))] [e0, e1, e2, e3, e4, e5, e6, e7, .p k01Plain, .p (.lst k01D)] g = .ret (.bl true) g := by
  have is : items .seq [.lst k01D] = some k01D := rfl
  have hl : k01D.length ≤ 1000000 := by decide
  generalize k01D = L at *
  generalize k01Plain = P at *
  · have cd := compD_f (C := C) (env := [e0, e1, e2, e3, e4, e5, e6, e7, .p P, .p (.lst L)]) (g := g) (e := .var 5) (cnd := .not (.call i_law_right_k01 [.var 8, .var 5])) (t := .nm 5) L (fun d => d) (fun d => false) (fun d => d) hl fun d hd => ⟨[e0, e1, e2, e3, e4, .p d, e6, e7, .p P, .p (.lst L)], rfl, by
      simp only [evE_not, evE_call, evEs_cons, evEs_nil, evE_var, getS_z, getS_s, slV_p, bind_ok, hC d hd g, notD_bl, Bool.not_true], fun h => by cases h⟩
    have ef : L.filter (fun _ => false) = [] := by simp
    rw [List.map_id', List.map_id', ef] at cd
    have eq : op2 .eq (.lst []) (.lst []) = some (.bl true) := rfl
    simp only [evSs_cons, evSs_nil, evS_ret, evE_op, evE_comp, evE_lst, evEs_cons, evEs_nil, evE_var, getS_z, getS_s, slV_p, bind_ok, is, cd, eq, of_some, to_ok, thenS_ret]
theorem small_vb {k : Nat} {i : Int} (h : i.natAbs ≤ 10 ^ 39) : Vb k 100 (.int i) := .int _ _ _ (by rw [ZB_eq]; omega)
theorem vb_vs {n : Nat} {V : Ves} (h3 : n ≤ 3) (hV : ∀ i, i < n → VOk V i) : Vb 2 100 (vsD n V) := .tup _ _ _ (by simp; omega) fun d hd => by
  obtain ⟨i, hi, rfl⟩ := List.mem_map.mp hd
  have v := hV i (List.mem_range.mp hi)
  obtain ⟨a1, a2, a3, a4, a5, a6⟩ := v
  refine .tup _ _ _ (by simp) fun d hd => ?_
  simp only [List.mem_cons, List.not_mem_nil, or_false] at hd
  rcases hd with rfl | rfl | rfl <;> refine small_vb ?_ <;> omega
theorem vb_stp {n : Nat} {s : Stp} (h3 : n ≤ 3) (h : s.ok n) : Vb 1 100 (encS s) := by
  cases s with
  | fill a z =>
    obtain ⟨ha, h1, h2⟩ := h
    refine .tup _ _ _ (by simp) fun d hd => ?_
    simp only [List.mem_cons, List.not_mem_nil, or_false] at hd
    rcases hd with rfl | rfl | rfl
    · exact .str _ _ _ (by simp) (by decide)
    · exact small_vb (by omega)
    · exact small_vb (by omega)
  | tip a =>
    have ha : a < n := h
    refine .tup _ _ _ (by simp) fun d hd => ?_
    simp only [List.mem_cons, List.not_mem_nil, or_false] at hd
    rcases hd with rfl | rfl
    · exact .str _ _ _ (by simp) (by decide)
    · exact small_vb (by omega)
  | pour a b z =>
    obtain ⟨ha, hb, hab, h1, h2⟩ := h
    refine .tup _ _ _ (by simp) fun d hd => ?_
    simp only [List.mem_cons, List.not_mem_nil, or_false] at hd
    rcases hd with rfl | rfl | rfl | rfl
    · exact .str _ _ _ (by simp) (by decide)
    · exact small_vb (by omega)
    · exact small_vb (by omega)
    · exact small_vb (by omega)
theorem vb_way {n : Nat} {V : Ves} {ss : List Stp} (h : WayOk n V ss) : Vb 3 100 (wayD n V ss) := .tup _ _ _ (by simp) fun d hd => by
  simp only [List.mem_cons, List.not_mem_nil, or_false] at hd
  have s8 := h.s8
  rcases hd with rfl | rfl
  · exact vb_vs h.n3 h.vok
  · exact .tup _ _ _ (by simp; omega) fun d hd => by
      obtain ⟨s, hs, rfl⟩ := List.mem_map.mp hd
      exact vb_stp h.n3 (h.sok s hs)
theorem vb_row {n : Nat} {x : Nat → Rat} (h3 : n ≤ 3) (h : ∀ i, i < n → Amt (x i)) : Vb 2 100 (row n x) := .tup _ _ _ (by simp; omega) fun d hd => by
  obtain ⟨i, hi, rfl⟩ := List.mem_map.mp hd
  have a := h i (List.mem_range.mp hi)
  have a1 := a.num
  have a2 := a.den
  have a0 : 0 ≤ (x i).num := Rat.num_nonneg.mpr a.lo
  refine .tup _ _ _ (by simp) fun d hd => ?_
  simp only [List.mem_cons, List.not_mem_nil, or_false] at hd
  rcases hd with rfl | rfl <;> refine small_vb ?_ <;> omega
abbrev E1 (e0 e1 : Sl) (m n : Nat) (V : Ves) (ss : List Stp) (e4 e5 e6 e7 e8 e9 : Sl) : Env := [e0, e1, .p (.mref m), .p (wayD n V ss), e4, e5, e6, e7, e8, e9]
theorem k01_at (m n : Nat) (V : Ves) (ss : List Stp) (g : Gs) (hs : Sv g m) (h : WayOk n V ss) (e0 e1 e4 e5 e6 e7 e8 e9 : Sl) :
    ∃ z5 z6 g', evSs (evF TT 39) k01Inner (E1 e0 e1 m n V ss e4 e5 e6 e7 e8 e9) g = .nx (E1 e0 e1 m n V ss e4 z5 z6 e7 e8 e9) g' ∧ Sv g' m := by
  have n3 := h.n3
  obtain ⟨x, g1, q1, hx, _, hs1⟩ := ev_law_dirt 36 m n g hs n3
  have vw := vb_way h
  have vx := vb_row n3 hx.amt
  obtain ⟨t, g2, q2, ht, hs2⟩ := some_l 37 m [wayD n V ss, wayD n V ss, row n x] g1 hs1 (by simp) (by simp)
  have vt : Vb 3 100 t := by
    simp only [List.mem_cons, List.not_mem_nil, or_false] at ht
    rcases ht with rfl | rfl | rfl
    · exact vw
    · exact vw
    · exact vx.up (by omega) (Nat.le_refl _)
  obtain ⟨b1, g3, q3, v1, hs3⟩ := ev_bent 3 30 m 100 t g2 (by decide) (by decide) (by decide) vt hs2
  obtain ⟨b2, g4, q4, v2, hs4⟩ := ev_bent 3 30 m 100 t g3 (by decide) (by decide) (by decide) vt hs3
  obtain ⟨b3, g5, q5, v3, hs5⟩ := ev_bent 5 28 m 101 b2 g4 (by decide) (by decide) (by decide) v2 hs4
  obtain ⟨a, g6, q6, va, hs6⟩ := ev_anything 2 34 m g5 (by decide) hs5
  have q6 : evF TT 39 i_law_anything [.mref m, .int 2] g5 = .ok a g6 := q6
  obtain ⟨d, g7, q7, hd, hs7⟩ := some_l 37 m [t, b1, b3, a] g6 hs6 (by simp) (by simp)
  have vd : Vb 7 102 d := by
    simp only [List.mem_cons, List.not_mem_nil, or_false] at hd
    rcases hd with rfl | rfl | rfl | rfl
    · exact vt.up (by omega) (by omega)
    · exact v1.up (by omega) (by omega)
    · exact v3
    · exact va.up (by omega) (by omega)
  have r := ev_law_right1 32 n V ss g7 (by decide) (by decide) h vd
  have o : op2 .add (.lst [t, b1, b3]) (.lst [a]) = some (.lst [t, b1, b3, a]) := rfl
  refine ⟨.p t, .p (.lst [t, b1, b3]), g7, ?_, hs7⟩
  simp only [E1, k01Inner, evSs_cons, evSs_nil, evS_asg, evS_ite, evE_not, evE_op, evE_lst, evE_ix, evE_bi, evE_call, evE_lit, evE_var, evEs_cons, evEs_nil, getS_z, getS_s, setS_z, setS_s, slV_p, bind_ok, wx0, lenV, of_some, q1, q2, q3, q4, q5, q6, q7, o, r, notD_bl, Bool.not_true, iteD_bl, Bool.false_eq_true, if_false, to_ok, thenS_nx]
theorem plain_k01 (ns : List Int) : ∃ g', evF TT 40 i_law_k01 [.scr (ns.map D.int)] [] = .ok (.bl true) g' := by
  rw [evF_s T_law_k01, runF_eq rfl]
  show ∃ g', outR (evSs (evF TT 39) b_law_k01 [.p (.scr (ns.map D.int)), .u, .u, .u, .u, .u, .u, .u, .u, .u] []) = _
  obtain ⟨nn, hnn, hrange⟩ := law_range ns 4 10 3 (by decide) (by decide) (by decide)
  generalize hbi : k01Inner = bi
  generalize hbd : ([.cel 2 (.call i_law_sieve [.var 0,
    .var 1]), .asg 3 (.call i_law_way [.var 2, .call i_law_vessels [.var 2, .lit (.int 1)]]),
    .ite (.or_ (.not (.call i_law_is_way [.var 3])) (.not (.call i_law_water_right [.var 3]))) [.ret (.lit (.bl false))] [],
    .for_ (.nm 4) .rng [.lit (.int 12)] bi] : List St) = body
  obtain ⟨env', g', f1, y1, y2, y3, y4, y5, y6, y7, y8, y9, he⟩ := forL_n (t := .nm 1) (f := fun (i : Nat) => D.int (i : Int)) (b := bodyOf (evF TT 39) body) (env := [.p (.scr (ns.map D.int)), .u, .u, .u, .u, .u, .u, .u, .u, .u]) (g := [])
    (fun i e g => ∃ y1 y2 y3 y4 y5 y6 y7 y8 y9, e = [.p (.scr (ns.map D.int)), y1, y2, y3, y4, y5, y6, y7, y8, y9]) nn (fun i e g hi ⟨y1, y2, y3, y4, y5, y6, y7, y8, y9, he⟩ => by
      subst he
      obtain ⟨g1, c1, hs1⟩ := ev_new_sieve 38 ns i [.p (.scr (ns.map D.int)), .p (.int (i : Int)), y2, y3, y4, y5, y6, y7, y8, y9] g rfl rfl (by omega)
      generalize g.length = m at c1 hs1
      obtain ⟨n, V, g2, c2, h1, h3, hV, hs2⟩ := ev_law_vessels 36 m 1 g1 hs1 (by decide) (by decide)
      have c2 : evF TT 39 i_law_vessels [.mref m, .int 1] g1 = .ok (vsD n V) g2 := c2
      obtain ⟨ss, g3, c3, hw, hs3⟩ := ev_law_way 35 m n V g2 hs2 (by omega) h3 hV
      have vw := vb_way hw
      obtain ⟨b, w1, w2⟩ := way_both 30 36 g3 (by decide) (by decide) vw
      have w1' := ev_is_good 30 n V ss g3 hw
      have hb : b = true := by
        rw [w1'] at w1
        injection w1 with e
        injection e with e
        exact e.symm
      rw [hb] at w2
      have wr := ev_law_water_right 31 n V ss g3 hw
      obtain ⟨env2, g4, f2, z4, z5, z6, he2, hs4⟩ := forL_n (t := .nm 4) (f := fun (i : Nat) => D.int (i : Int)) (b := bodyOf (evF TT 39) bi) (env := E1 (.p (.scr (ns.map D.int))) (.p (.int (i : Int))) m n V ss y4 y5 y6 y7 y8 y9) (g := g3)
        (fun a e g => ∃ z4 z5 z6, e = E1 (.p (.scr (ns.map D.int))) (.p (.int (i : Int))) m n V ss z4 z5 z6 y7 y8 y9 ∧ Sv g m) 12 (fun a e g ha ⟨z4, z5, z6, he, hs⟩ => by
          subst he
          obtain ⟨w5, w6, g', q, hs'⟩ := k01_at m n V ss g hs hw (.p (.scr (ns.map D.int))) (.p (.int (i : Int))) (.p (.int (a : Int))) z5 z6 y7 y8 y9
          rw [hbi] at q
          exact ⟨_, rfl, _, g', .inl (by rw [bodyOf_eq]; exact q), .p (.int (a : Int)), w5, w6, rfl, hs'⟩) ⟨y4, y5, y6, rfl, hs3⟩
      subst he2
      have r12 : items .rng [.int 12] = some ((List.range 12).map fun (i : Nat) => D.int (i : Int)) := items_rng (n := 12) (by decide)
      refine ⟨_, rfl, _, g4, .inl ?_, .p (.int (i : Int)), .p (.mref m), .p (wayD n V ss), z4, z5, z6, y7, y8, y9, rfl⟩
      rw [bodyOf_eq, ← hbd]
      simp only [setS_z, setS_s] at c1 ⊢
      rw [evSs_cons, c1]
      simp only [E1] at f2
      simp only [to_ok, setS_z, setS_s, thenS_nx, evSs_cons, evSs_nil, evS_asg, evS_for, evS_ite, evE_or, evE_not, evE_call, evE_lit, evEs_cons, evEs_nil, evE_var, getS_z, getS_s, slV_p, bind_ok, c2, c3, w2, wr, notD_bl, Bool.not_true, iteD_bl, Bool.false_eq_true, if_false, fork_ok, r12, forD_some, f2]) ⟨.u, .u, .u, .u, .u, .u, .u, .u, .u, rfl⟩
  subst he
  refine ⟨g', ?_⟩
  have hk : b_law_k01 = [.for_ (.nm 1) .rng [.bi .max2 [.lit (.int 4), .bi .min2 [.lit (.int 10), .op .add (.bi .len [.var 0]) (.lit (.int 3))]]] body] ++ (k01Rows ++ [.ret (.op .eq (.comp (.var 5) (.nm 5) .seq [.var 9] [.not (.call i_law_right_k01 [.var 8, .var 5])]) (.lst []))]) := by
    rw [← hbd, ← hbi]; rfl
  rw [hk, evSs_app]
  have fs : evSs (evF TT 39) [.for_ (.nm 1) .rng [.bi .max2 [.lit (.int 4), .bi .min2 [.lit (.int 10), .op .add (.bi .len [.var 0]) (.lit (.int 3))]]] body] [.p (.scr (ns.map D.int)), .u, .u, .u, .u, .u, .u, .u, .u, .u] [] = .nx [.p (.scr (ns.map D.int)), y1, y2, y3, y4, y5, y6, y7, y8, y9] g' := by
    simp only [evSs_cons, evSs_nil, evS_for, evEs_cons, evEs_nil, evE_bi, evE_op, evE_var, evE_lit, getS_z, getS_s, slV_p, bind_ok, len_scr, of_some, op_add_i, min2_i, hrange, fork_ok, items_rng (show nn ≤ 1000000 by omega), forD_some, f1, thenS_nx]
  rw [fs, thenS_nx, evSs_app, k01_rows, thenS_nx, k01_end g' (fun d hd g => by
    rw [k01_plain]
    exact ev_law_right1 32 1 k01PlV k01PlS g (by decide) (by decide) k01_plain_ok (k01D_vb d hd)), outR_ret]
end Rz
namespace Rz
open PySem PySem.Spec PyProof.Rows L2
def MOST : Nat := 63
def rowLaw : Rw := ⟨39, "law", ["script"], ["script", "k", "sieve", "told_so", "turn", "thing", "things", "cup", "plain", "rows"], d_law_k01, 49⟩
theorem plain : ∀ ns : List Int, ns.length ≤ MOST → ∃ g', evF (tabOf rows glo cls).T 40 39 [.scr (ns.map D.int)] [] = .ok (.bl true) g' := fun ns _ => plain_k01 ns
theorem facts {w : World} {K : PySem.W.Frag} {h : Heap} {mg : Str → Option Value} {f : Addr} (X : K.In h) (G : h.Ns mainGlobals mg) (hfa : mg ("law" : Str) = some (.ref f)) (c : SaysR faL fnL (exOf glo) K) :
    ∃ fd : FuncData, (∀ (s : Shared) (v : Value), BindsTo s fd ⟨[v], []⟩ [("script", v)]) ∧ ∀ base : Heap, FnOk prog w K mg base L2.CX0 40 f fd ["script"] (spLaw K MOST) := by
  have hr : rowLaw ∈ rows := List.mem_of_getElem? (i := 39) rfl
  obtain ⟨fd, F, ef⟩ := row_fun (P := prog) c.d.1 hr
  have e := hfa.symm.trans (He.glo_ok X G (c.d.1.facts (f := .glo "law") (List.mem_append_left _ (List.mem_map.mpr ⟨rowLaw, hr, rfl⟩))))
  cases e
  refine ⟨fd, fun s v => F.bindsA (ps := ["script"]) (binds.get _ hr) s [v] rfl, fun base => ?_⟩
  have q := law_fn (S := infOf prog w K mg base rows glo cls fd) (facts_of (P := prog) (d0 := fd) X G c chk binds base) (n := 40) (f := 39) (most := MOST) (x := "law") rfl plain
  have e1 : (infOf prog w K mg base rows glo cls fd).fd 39 = fd := by
    show (fdK K (He.ga K "law")).getD fd = fd
    rw [show fdK K (He.ga K "law") = some fd from ef]; rfl
  rw [e1] at q
  exact fnOk_cx q fun _ _ _ _ z => z

end Rz

open PySem PySem.W PySem.Calls PyProof.Rows
theorem PySem.Challenge.cw_anyrinses_k01_ways_and_dirt_recognized_holds : PySem.Challenge.rw_anyrinses_k01_ways_and_dirt_recognized.Holds := by
  w_on; o_law
  refine HandSHeadRun.head_any (r := OpenLaw.row PySem.Challenge.rw_anyrinses_k01_ways_and_dirt_recognized) (q := view (OpenLaw.row PySem.Challenge.rw_anyrinses_k01_ways_and_dirt_recognized).prog [49]) (H := Rz.hk) (ob := Rz.ob) (M := 4000) (loose := Rz.loose) (d := HandSHeadRun.topDef (OpenLaw.row PySem.Challenge.rw_anyrinses_k01_ways_and_dirt_recognized).prog 49) (kwd := []) Rz.ob_eq
    (by kernel_rfl) (fun s => by kernel_rfl) Rz.run (by kernel_rfl) (by kernel_rfl) (by kernel_rfl) (by rfl) (by first | assumption | decide +kernel) (by decide +kernel) ⟨rfl, rfl, rfl, rfl, rfl, by decide +kernel⟩ ?hw ?hc
  case hw => w_witness2
  case hc =>
    refine L2.walk_ofE (l := PySem.Challenge.rw_anyrinses_k01_ways_and_dirt_recognized) (n := Rz.MOST) (k := 40) (x := "script") (CX := L2.CX0) rfl (by decide) (by kernel_rfl) ⟨rfl, by decide, by decide⟩ ?F (fun _ _ _ _ z => z)
    intro w mg fa h Y G hmg0
    obtain ⟨K, KX, c⟩ := Y
    have hmg : mg ("law" : PySem.Str) = some (.ref fa) := by
      have e : (HandSHeadRun.topDef (OpenLaw.row PySem.Challenge.rw_anyrinses_k01_ways_and_dirt_recognized).prog 49).name = ("law" : PySem.Str) := by kernel_rfl
      rw [← e]
      exact hmg0
    obtain ⟨fd, hb, hF⟩ := Rz.facts (w := w) KX G hmg c
    exact ⟨K, fd, Rz.spLaw K Rz.MOST, KX, hb, fun H a ns hl ho hS => ⟨a, ns, rfl, hl, ho, hS, fun _ _ e => e⟩, fun base _ _ => hF base⟩
