import PyProof.Rows.All
import Wide.All
import OpenK.AllK
import Wide.FinOn
import KE.KStateDown
import HandS.WordsExc
import HandS.Head0
import HandS.Head1
import HandS.Head2
import HandS.HeadEnd
import HandS.HeadHook1
import HandS.HeadHook2
import HandS.HeadHook4
import HandS.ForMost
import HandS.ForExc
import HandS.TupAny
import HandS.TupMul
import HandS.IsInst
import HandS.Deep
import HandS.Conv
import HandS.Zip
import HandS.Wide
import HandS.Defaults
import KE.GoesNew
import HandS.Flt
import HandS.Flow
import KE.KDictZip
import HandS.Dict
import HandS.List
import HandS.Style
import HandS.TryMany
import HandS.ExcOwn
import PyProof.ExcBaseAll.ValueError
import PySem.Challenge.RW_anyrinses_k05_whole_lids_of_vessels
set_option Elab.async false
set_option linter.all false
set_option maxRecDepth 100000
set_option maxHeartbeats 0
/-! RzCore -/
set_option linter.all false
namespace Rz

/-- data of the pure evaluator -/
inductive D where
  | non
  | bl (b : Bool)
  | int (i : Int)
  | str (s : List Nat)
  | tup (ds : List D)
  | lst (ds : List D)
  | dic (ks vs : List D)
  | fn (f : Nat)
  | mref (n : Nat)
  | scr (ds : List D)

abbrev Gs := List (List D)

/-- what comes out: a value, an exception (its class, what it bears), or no word -/
inductive R (α : Type) where
  | ok (a : α) (g : Gs)
  | exc (c : Nat) (p : D) (g : Gs)
  | no

def R.bind {α β : Type} : R α → (α → Gs → R β) → R β
  | .ok a g, f => f a g
  | .exc c p g, _ => .exc c p g
  | .no, _ => .no
def R.of {α : Type} (o : Option α) (g : Gs) : R α := match o with
  | some a => .ok a g
  | none => .no

inductive Op where
  | add | sub | mul | fdiv | mod | pow | eq | ne | lt | le | gt | ge | isin | notin | is_ | isnt
inductive Bi where
  | len | int | abs | min2 | min3 | max2 | max1 | sum | tuple | list | lrange | lzip | dzip | sorted | any | all | str | bool
  | isint | isbool | isstr | istup | islst
  | get | join | split | index
inductive ItK where
  | seq | rng | rng2 | zip | enum
inductive SlK where
  | lo | hi | both | rev
inductive Tg where
  | nm (i : Nat)
  | tp (ts : List Tg)

inductive Ex where
  | lit (d : D)
  | var (i : Nat)
  | glo (x : List Nat) (d : D)
  | fnv (f : Nat)
  | tup (es : List Ex)
  | lst (es : List Ex)
  | dic (ks vs : List Ex)
  | op (o : Op) (a b : Ex)
  | neg (a : Ex)
  | not (a : Ex)
  | and_ (a b : Ex)
  | or_ (a b : Ex)
  | chain (o p : Op) (a b c : Ex)
  | chain3 (o p q : Op) (a b c d : Ex)
  | ite (c a b : Ex)
  | call (f : Nat) (es : List Ex)
  | bi (b : Bi) (es : List Ex)
  | meth (b : Bi) (a : Ex) (es : List Ex)
  | ix (a i : Ex)
  | sl (k : SlK) (a : Ex) (es : List Ex)
  | comp (e : Ex) (t : Tg) (k : ItK) (es : List Ex) (c : List Ex)
  | fz (is : List Nat) (e : Ex)
  | line (i : Nat)

inductive St where
  | frz (is : List Nat)
  | asg (i : Nat) (e : Ex)
  | own (i : Nat) (e : Ex)
  | cel (i : Nat) (e : Ex)
  | asg2 (i j : Nat) (e : Ex)
  | par (ts : List (Bool × Nat)) (es : List Ex)
  | unp (t : Tg) (e : Ex)
  | app (i : Nat) (e : Ex)
  | setx (i : Nat) (j e : Ex)
  | ex (e : Ex)
  | ite (c : Ex) (a b : List St)
  | for_ (t : Tg) (k : ItK) (es : List Ex) (body : List St)
  | whl (c : Ex) (body : List St)
  | ret (e : Ex)
  | retN
  | rai (c : Nat) (e : List Ex)
  | pass
  | brk
  | cnt
  | try_ (body : List St) (hs : List (Nat × Option Nat × List St))

/-! ### data -/
mutual
def D.eqv : D → D → Bool
  | .non, .non => true
  | .bl a, .bl b => a == b
  | .bl a, .int j => (if a then 1 else 0) == j
  | .int i, .bl b => i == (if b then 1 else 0)
  | .int i, .int j => i == j
  | .str x, .str y => x == y
  | .lst xs, .lst ys => D.eqvs xs ys
  | .tup xs, .tup ys => D.eqvs xs ys
  | _, _ => false
def D.eqvs : List D → List D → Bool
  | [], [] => true
  | x :: xs, y :: ys => D.eqv x y && D.eqvs xs ys
  | _, _ => false
end
mutual
/-- data that == may look at: at most so deep, plain texts -/
def D.shp : Nat → D → Bool
  | _, .non => true
  | _, .bl _ => true
  | _, .int _ => true
  | _, .str s => s.all fun c => Nat.blt c 55296
  | 0, .tup _ => false
  | 0, .lst _ => false
  | n + 1, .tup ds => D.shps n ds
  | n + 1, .lst ds => D.shps n ds
  | _, .dic _ _ => false
  | _, .fn _ => false
  | _, .mref _ => false
  | _, .scr _ => false
def D.shps : Nat → List D → Bool
  | _, [] => true
  | n, d :: ds => D.shp n d && D.shps n ds
end
mutual
/-- no list, no dict within -/
def D.noL : D → Bool
  | .lst _ => false
  | .dic _ _ => false
  | .scr _ => false
  | .tup ds => D.noLs ds
  | _ => true
def D.noLs : List D → Bool
  | [] => true
  | d :: ds => D.noL d && D.noLs ds
end

def lineN : Nat := 1000000
def mulOk (i j : Int) : Bool := Nat.blt (i.natAbs.log2 + j.natAbs.log2) 100000000
def divOk (i j : Int) : Bool := !(j == 0) && (Nat.blt j.natAbs.log2 9000 || Nat.blt i.natAbs.log2 (j.natAbs.log2 + 4400))
def powOk (i j : Int) : Bool := decide (0 ≤ j) && decide (j ≤ 1000) && Nat.blt i.natAbs 18446744073709551616
def shortI (k : Int) : Bool := decide (-4611686018427387904 ≤ k) && decide (k < 4611686018427387904)

/-- the place that an index of any sign means -/
def ixN (n : Nat) (i : Int) : Option Nat :=
  if 0 ≤ i then (if i < n then some i.toNat else none) else if -(n : Int) ≤ i then some (i + n).toNat else none
def atI {α : Type} (xs : List α) (i : Int) : Option α := (ixN xs.length i).bind fun j => xs[j]?

def flatD : D → Bool
  | .non => true
  | .bl _ => true
  | .int _ => true
  | .str _ => true
  | _ => false
def anyEq (ds : List D) (d : D) : Bool := ds.any fun z => D.eqv z d
def keyOk : D → Bool
  | .int _ => true
  | .str _ => true
  | _ => false
def dlook (k : D) : List D → List D → Option D
  | x :: xs, y :: ys => if D.eqv x k then some y else dlook k xs ys
  | _, _ => none
def dhas (k : D) (ks : List D) : Bool := ks.any fun z => D.eqv z k
def dsplit : List D → List D × List D
  | k :: v :: r => (k :: (dsplit r).1, v :: (dsplit r).2)
  | _ => ([], [])
def dput (k v : D) (ks vs : List D) : List D × List D :=
  if dhas k ks then (ks, (ks.zip vs).map fun p => if D.eqv p.1 k then v else p.2) else (ks ++ [k], vs ++ [v])

def shp2 (x y : D) : Bool := D.shp 60 x && D.shp 60 y

def op2 : Op → D → D → Option D
  | .add, x, y => match x, y with
    | .int i, .int j => some (.int (i + j))
    | .str a, .str b => if Nat.ble (a.length + b.length) lineN then some (.str (a ++ b)) else none
    | .tup a, .tup b => if Nat.ble (a.length + b.length) lineN then some (.tup (a ++ b)) else none
    | .lst a, .lst b => if Nat.ble (a.length + b.length) lineN then some (.lst (a ++ b)) else none
    | _, _ => none
  | .sub, x, y => match x, y with
    | .int i, .int j => some (.int (i - j))
    | _, _ => none
  | .mul, x, y => match x, y with
    | .int i, .int j => if mulOk i j then some (.int (i * j)) else none
    | .tup a, .int k => if shortI k && Nat.ble (a.length * k.toNat) lineN then some (.tup (List.replicate k.toNat a).flatten) else none
    | .lst a, .int k => if shortI k && Nat.ble (a.length * k.toNat) lineN then some (.lst (List.replicate k.toNat a).flatten) else none
    | _, _ => none
  | .fdiv, x, y => match x, y with
    | .int i, .int j => if divOk i j then some (.int (i.fdiv j)) else none
    | _, _ => none
  | .mod, x, y => match x, y with
    | .int i, .int j => if j == 0 then none else some (.int (i.fmod j))
    | _, _ => none
  | .pow, x, y => match x, y with
    | .int i, .int j => if powOk i j then some (.int (i ^ j.toNat)) else none
    | _, _ => none
  | .eq, x, y => if shp2 x y then some (.bl (D.eqv x y)) else none
  | .ne, x, y => if shp2 x y then some (.bl (!D.eqv x y)) else none
  | .lt, x, y => match x, y with
    | .int i, .int j => some (.bl (decide (i < j)))
    | _, _ => none
  | .le, x, y => match x, y with
    | .int i, .int j => some (.bl (decide (i ≤ j)))
    | _, _ => none
  | .gt, x, y => match x, y with
    | .int i, .int j => some (.bl (decide (j < i)))
    | _, _ => none
  | .ge, x, y => match x, y with
    | .int i, .int j => some (.bl (decide (j ≤ i)))
    | _, _ => none
  | .isin, x, y => match y with
    | .lst ds => if shp2 x y then some (.bl (anyEq ds x)) else none
    | .tup ds => if flatD x && ds.all flatD then some (.bl (anyEq ds x)) else none
    | .dic ks _ => if keyOk x then some (.bl (dhas x ks)) else none
    | _ => none
  | .notin, x, y => match y with
    | .lst ds => if shp2 x y then some (.bl (!anyEq ds x)) else none
    | .tup ds => if flatD x && ds.all flatD then some (.bl (!anyEq ds x)) else none
    | .dic ks _ => if keyOk x then some (.bl (!dhas x ks)) else none
    | _ => none
  | .is_, x, y => match y with
    | .non => match x with
      | .non => some (.bl true)
      | _ => some (.bl false)
    | _ => none
  | .isnt, x, y => match y with
    | .non => match x with
      | .non => some (.bl false)
      | _ => some (.bl true)
    | _ => none

def intsOf : List D → Option (List Int)
  | [] => some []
  | .int i :: r => (intsOf r).map (i :: ·)
  | _ :: _ => none
def blsOf : List D → Option (List Bool)
  | [] => some []
  | .bl i :: r => (blsOf r).map (i :: ·)
  | _ :: _ => none
def strsOf : List D → Option (List (List Nat))
  | [] => some []
  | .str i :: r => (strsOf r).map (i :: ·)
  | _ :: _ => none
def seqOf : D → Option (List D)
  | .tup ds => some ds
  | .lst ds => some ds
  | _ => none

/-- the digits of an int -/
def digs : Nat → Nat → List Nat → List Nat
  | 0, _, acc => acc
  | k + 1, n, acc => if n < 10 then (48 + n) :: acc else digs k (n / 10) ((48 + n % 10) :: acc)
def strI (i : Int) : List Nat := if i < 0 then 45 :: digs 80 i.natAbs [] else digs 80 i.natAbs []
def strIOk (i : Int) : Bool := Nat.blt i.natAbs 1000000000000000000000000

def insI (x : Int) : List Int → List Int
  | [] => [x]
  | y :: r => if x ≤ y then x :: y :: r else y :: insI x r
def sortI : List Int → List Int
  | [] => []
  | x :: r => insI x (sortI r)

def joinS (sep : List Nat) : List (List Nat) → List Nat
  | [] => []
  | [x] => x
  | x :: r => x ++ sep ++ joinS sep r
/-- cut at a sign -/
def splitS (c : Nat) : List Nat → List (List Nat)
  | [] => [[]]
  | x :: r => match splitS c r with
    | [] => [[]]
    | w :: ws => if x == c then [] :: w :: ws else (x :: w) :: ws

def rangeI (lo : Int) (n : Nat) : List D := (List.range n).map fun i => D.int (lo + (i : Nat))

def maxI : Int → List Int → Int
  | m, [] => m
  | m, x :: r => maxI (if x > m then x else m) r

def bi : Bi → List D → Option D
  | .len, [x] => match x with
    | .tup ds => some (.int ds.length)
    | .lst ds => some (.int ds.length)
    | .str s => if Nat.ble s.length lineN then some (.int s.length) else none
    | .scr ds => some (.int ds.length)
    | _ => none
  | .int, [x] => match x with
    | .int i => some (.int i)
    | .bl b => some (.int (if b then 1 else 0))
    | _ => none
  | .bool, [x] => match x with
    | .bl b => some (.bl b)
    | _ => none
  | .abs, [x] => match x with
    | .int i => some (.int (if i < 0 then -i else i))
    | _ => none
  | .min2, [x, y] => match x, y with
    | .int i, .int j => some (.int (if j < i then j else i))
    | _, _ => none
  | .min3, [x, y, z] => match x, y, z with
    | .int i, .int j, .int k => some (.int (if k < (if j < i then j else i) then k else (if j < i then j else i)))
    | _, _, _ => none
  | .max2, [x, y] => match x, y with
    | .int i, .int j => some (.int (if j > i then j else i))
    | _, _ => none
  | .max1, [x] => match (seqOf x).bind intsOf with
    | some (i :: r) => some (.int (maxI i r))
    | _ => none
  | .sum, [x] => match x with
    | .lst ds => (intsOf ds).map fun ns => .int ns.sum
    | _ => none
  | .tuple, [x] => (seqOf x).map .tup
  | .list, [x] => (seqOf x).map .lst
  | .lrange, [x] => match x with
    | .int n => if decide (0 ≤ n) && Nat.ble n.toNat lineN then some (.lst (rangeI 0 n.toNat)) else none
    | _ => none
  | .lzip, [x, y] => match seqOf x, seqOf y with
    | some a, some b => some (.lst ((a.zip b).map fun p => .tup [p.1, p.2]))
    | _, _ => none
  | .dzip, [x, y] => match seqOf x, seqOf y with
    | some a, some b => if a.all keyOk && a.length == b.length then
        let r := (a.zip b).foldl (fun (r : List D × List D) p => dput p.1 p.2 r.1 r.2) ([], [])
        some (.dic r.1 r.2)
      else none
    | _, _ => none
  | .sorted, [x] => match x with
    | .lst ds => match intsOf ds with
      | some ns => if Nat.blt ns.length 64 then some (.lst ((sortI ns).map .int)) else none
      | none => none
    | _ => none
  | .any, [x] => match x with
    | .lst ds => (blsOf ds).map fun bs => .bl (bs.any id)
    | _ => none
  | .all, [x] => match x with
    | .lst ds => (blsOf ds).map fun bs => .bl (bs.all id)
    | _ => none
  | .str, [x] => match x with
    | .int i => if strIOk i then some (.str (strI i)) else none
    | .str s => some (.str s)
    | _ => none
  | .isint, [x] => match x with
    | .int _ => some (.bl true)
    | .bl _ => some (.bl true)
    | .mref _ => none
    | .fn _ => none
    | .scr _ => none
    | _ => some (.bl false)
  | .isbool, [x] => match x with
    | .bl _ => some (.bl true)
    | .mref _ => none
    | .fn _ => none
    | .scr _ => none
    | _ => some (.bl false)
  | .isstr, [x] => match x with
    | .str _ => some (.bl true)
    | .mref _ => none
    | .fn _ => none
    | .scr _ => none
    | _ => some (.bl false)
  | .istup, [x] => match x with
    | .tup _ => some (.bl true)
    | .mref _ => none
    | .fn _ => none
    | .scr _ => none
    | _ => some (.bl false)
  | .islst, [x] => match x with
    | .lst _ => some (.bl true)
    | .mref _ => none
    | .fn _ => none
    | .scr _ => none
    | _ => some (.bl false)
  | .get, [x, k, d] => match x with
    | .dic ks vs => if keyOk k then some ((dlook k ks vs).getD d) else none
    | _ => none
  | .join, [x, y] => match x, (seqOf y).bind strsOf with
    | .str s, some ws => if Nat.ble ((joinS s ws).length) lineN then some (.str (joinS s ws)) else none
    | _, _ => none
  | .split, [x, y] => match x, y with
    | .str s, .str [c] => some (.lst ((splitS c s).map .str))
    | _, _ => none
  | .index, [x, y] => match x, y with
    | .lst ds, .int i => (intsOf ds).bind fun ns => (ns.findIdx? (· == i)).map fun j => .int (j : Nat)
    | _, _ => none
  | _, _ => none

/-- the items that a for goes over -/
def items : ItK → List D → Option (List D)
  | .seq, [x] => match x with
    | .tup ds => some ds
    | .lst ds => some ds
    | _ => none
  | .rng, [x] => match x with
    | .int n => if shortI n then some (rangeI 0 n.toNat) else none
    | _ => none
  | .rng2, [x, y] => match x, y with
    | .int a, .int b => if shortI a && shortI b then some (rangeI a (b - a).toNat) else none
    | _, _ => none
  | .zip, [x, y] => match seqOf x, seqOf y with
    | some a, some b => some ((a.zip b).map fun p => .tup [p.1, p.2])
    | _, _ => none
  | .enum, [x] => match seqOf x with
    | some a => some ((a.zip (List.range a.length)).map fun p => .tup [.int (p.2 : Nat), p.1])
    | _ => none
  | _, _ => none

/-- a slice's bound as a place among n -/
def sIx (n d : Nat) : Option Int → Nat
  | none => d
  | some v => if v < 0 then (v + (n : Int)).toNat else min v.toNat n
def cut {α : Type} (xs : List α) (lo hi : Option Int) : List α :=
  (xs.drop (sIx xs.length 0 lo)).take (sIx xs.length xs.length hi - sIx xs.length 0 lo)
def slice (x : D) (lo hi : Option Int) : Option D := match x with
  | .tup ds => some (.tup (cut ds lo hi))
  | .lst ds => some (.lst (cut ds lo hi))
  | .str s => if Nat.ble s.length lineN then some (.str (cut s lo hi)) else none
  | _ => none
def revD : D → Option D
  | .lst ds => some (.lst ds.reverse)
  | _ => none
def slD : SlK → D → List D → Option D
  | .lo, x, [i] => match i with
    | .int i => slice x (some i) none
    | _ => none
  | .hi, x, [i] => match i with
    | .int i => slice x none (some i)
    | _ => none
  | .both, x, [i, j] => match i, j with
    | .int i, .int j => slice x (some i) (some j)
    | _, _ => none
  | .rev, x, [] => revD x
  | _, _, _ => none

def ixD (g : Gs) (x i : D) : Option D := match i with
  | .int k => match x with
    | .tup ds => atI ds k
    | .lst ds => atI ds k
    | .scr ds => atI ds k
    | .str s => if Nat.ble s.length lineN then (atI s k).map fun c => .str [c] else none
    | .dic ks vs => dlook (.int k) ks vs
    | .mref n => match g[n]? with
      | some ds => atI ds k
      | none => none
    | _ => none
  | .str s => match x with
    | .dic ks vs => dlook (.str s) ks vs
    | _ => none
  | _ => none

/-! ### slots -/
inductive Sl where
  | u
  | p (d : D)
  | o (d : D)
abbrev Env := List Sl
def Sl.fr : Sl → Sl
  | .o d => .p d
  | s => s
def setS : Env → Nat → Sl → Env
  | [], _, _ => []
  | _ :: r, 0, s => s :: r
  | a :: r, i + 1, s => a :: setS r i s
def getS : Env → Nat → Sl
  | [], _ => .u
  | a :: _, 0 => a
  | _ :: r, i + 1 => getS r i
def frzS : Env → Nat → Env
  | [], _ => []
  | a :: r, 0 => a.fr :: r
  | a :: r, i + 1 => a :: frzS r i
def frz : List Nat → Env → Env
  | [], env => env
  | i :: is, env => frz is (frzS env i)

mutual
def bindT : Tg → D → Env → Option Env
  | .nm i, d, env => some (setS env i (.p d))
  | .tp ts, d, env => match d with
    | .tup ds => bindTs ts ds env
    | _ => none
def bindTs : List Tg → List D → Env → Option Env
  | [], [], env => some env
  | t :: ts, d :: ds, env => match bindT t d env with
    | some env' => bindTs ts ds env'
    | none => none
  | _, _, _ => none
end

mutual
/-- the places of a target -/
def Tg.ix : Tg → List Nat
  | .nm i => [i]
  | .tp ts => Tg.ixs ts
def Tg.ixs : List Tg → List Nat
  | [] => []
  | t :: ts => Tg.ix t ++ Tg.ixs ts
end
def wipeS : List Nat → Env → Env
  | [], env => env
  | i :: is, env => setS (wipeS is env) i .u

/-! ### expressions -/
/-- the kind of thing whose method it is -/
def mtyp : Bi → D → Bool
  | .index, .lst _ => true
  | .join, .str _ => true
  | .split, .str _ => true
  | .get, .dic _ _ => true
  | _, _ => false
def D.toI {β : Type} (d : D) (k : Int → R β) : R β := match d with
  | .int i => k i
  | _ => .no
section
variable (C : Nat → List D → Gs → R D)

/-- the loop of a comprehension -/
def compL (f : Env → Gs → R D) (c : Env → Gs → R D) (t : Tg) : List D → Env → Gs → R (List D)
  | [], _, g => .ok [] g
  | d :: ds, env, g => match bindT t d env with
    | none => .no
    | some e1 => match c e1 g with
      | .ok (.bl true) g1 => match f e1 g1 with
        | .ok x g2 => match compL f c t ds env g2 with
          | .ok xs g3 => .ok (x :: xs) g3
          | _ => .no
        | _ => .no
      | .ok (.bl false) g1 => compL f c t ds env g1
      | _ => .no

mutual
def evE : Ex → Env → Gs → R D
  | .lit d, _, g => .ok d g
  | .var i, env, g => match getS env i with
    | .p d => .ok d g
    | _ => .no
  | .line i, env, g => match getS env i with
    | .p d => .ok d g
    | _ => .no
  | .glo _ d, _, g => .ok d g
  | .fnv f, _, g => .ok (.fn f) g
  | .tup es, env, g => (evEs es env g).bind fun ds g => .ok (.tup ds) g
  | .lst es, env, g => (evEs es env g).bind fun ds g => .ok (.lst ds) g
  | .dic es _, env, g => (evEs es env g).bind fun ds g => if (dsplit ds).1.all keyOk && Nat.ble (dsplit ds).1.length 15 then
      .ok (.dic (((dsplit ds).1.zip (dsplit ds).2).foldl (fun (r : List D × List D) p => dput p.1 p.2 r.1 r.2) ([], [])).1 (((dsplit ds).1.zip (dsplit ds).2).foldl (fun (r : List D × List D) p => dput p.1 p.2 r.1 r.2) ([], [])).2) g else .no
  | .op o a b, env, g => (evE a env g).bind fun x g => (evE b env g).bind fun y g => .of (op2 o x y) g
  | .neg a, env, g => (evE a env g).bind fun x g => match x with
    | .int i => .ok (.int (-i)) g
    | _ => .no
  | .not a, env, g => (evE a env g).bind fun x g => match x with
    | .bl b => .ok (.bl (!b)) g
    | _ => .no
  | .and_ a b, env, g => (evE a env g).bind fun x g => match x with
    | .bl true => evE b env g
    | .bl false => .ok (.bl false) g
    | _ => .no
  | .or_ a b, env, g => (evE a env g).bind fun x g => match x with
    | .bl true => .ok (.bl true) g
    | .bl false => evE b env g
    | _ => .no
  | .chain o p a b c, env, g => (evE a env g).bind fun x g => (evE b env g).bind fun y g => match op2 o x y with
    | some (.bl true) => (evE c env g).bind fun z g => .of (op2 p y z) g
    | some (.bl false) => .ok (.bl false) g
    | _ => .no
  | .chain3 o p q a b c d, env, g => (evE a env g).bind fun x g => (evE b env g).bind fun y g => match op2 o x y with
    | some (.bl true) => (evE c env g).bind fun z g => match op2 p y z with
      | some (.bl true) => (evE d env g).bind fun w g => .of (op2 q z w) g
      | some (.bl false) => .ok (.bl false) g
      | _ => .no
    | some (.bl false) => .ok (.bl false) g
    | _ => .no
  | .ite c a b, env, g => (evE c env g).bind fun x g => match x with
    | .bl true => evE a env g
    | .bl false => evE b env g
    | _ => .no
  | .call f es, env, g => (evEs es env g).bind fun ds g => C f ds g
  | .bi b es, env, g => (evEs es env g).bind fun ds g => .of (bi b ds) g
  | .meth b a es, env, g => (evE a env g).bind fun x g => if mtyp b x then (evEs es env g).bind fun ds g => .of (bi b (x :: ds)) g else .no
  | .ix a i, env, g => (evE a env g).bind fun x g => (evE i env g).bind fun y g => .of (ixD g x y) g
  | .sl k a es, env, g => (evE a env g).bind fun x g => (evIs es env g).bind fun ds g => .of (slD k x ds) g
  | .comp e t k es c, env, g => (evEs es env g).bind fun ds g => match items k ds with
    | none => .no
    | some xs => if Nat.ble xs.length lineN then match compL (fun env g => evE e env g) (fun env g => evC c env g) t xs (wipeS t.ix env) g with
        | .ok ys g => .ok (.lst ys) g
        | _ => .no
      else .no
  | .fz is e, env, g => match evE e (frz is env) g with
    | .ok d g => if D.noL d then .ok d g else .no
    | _ => .no
def evEs : List Ex → Env → Gs → R (List D)
  | [], _, g => .ok [] g
  | e :: es, env, g => (evE e env g).bind fun d g => (evEs es env g).bind fun ds g => .ok (d :: ds) g
def evIs : List Ex → Env → Gs → R (List D)
  | [], _, g => .ok [] g
  | e :: es, env, g => (evE e env g).bind fun d g => d.toI fun i => (evIs es env g).bind fun ds g => .ok (.int i :: ds) g
def evC : List Ex → Env → Gs → R D
  | [], _, g => .ok (.bl true) g
  | [c], env, g => evE c env g
  | _, _, _ => .no
end
end

/-! ### statements -/
inductive SR where
  | nx (env : Env) (g : Gs)
  | ret (d : D) (g : Gs)
  | brk (env : Env) (g : Gs)
  | cnt (env : Env) (g : Gs)
  | exc (c : Nat) (p : D) (env : Env) (g : Gs)
  | no

def R.to (r : R D) (env : Env) (f : D → Gs → SR) : SR := match r with
  | .ok d g => f d g
  | .exc c p g => .exc c p env g
  | .no => .no

/-- the loop of a for -/
def forL (b : Env → Gs → SR) (t : Tg) : List D → Env → Gs → SR
  | [], env, g => .nx env g
  | d :: ds, env, g => match bindT t d env with
    | none => .no
    | some e1 => match b e1 g with
      | .nx e2 g2 => forL b t ds e2 g2
      | .cnt e2 g2 => forL b t ds e2 g2
      | .brk e2 g2 => .nx e2 g2
      | r => r
/-- the loop of a while -/
def whlL (c : Env → Gs → R D) (b : Env → Gs → SR) : Nat → Env → Gs → SR
  | 0, _, _ => .no
  | k + 1, env, g => match c env g with
    | .ok (.bl true) g1 => match b env g1 with
      | .nx e2 g2 => whlL c b k e2 g2
      | .cnt e2 g2 => whlL c b k e2 g2
      | .brk e2 g2 => .nx e2 g2
      | r => r
    | .ok (.bl false) g1 => .nx env g1
    | .exc x p g1 => .exc x p env g1
    | _ => .no

def isLst : D → Bool
  | .lst _ => true
  | .dic _ _ => true
  | _ => false

def setPar : List (Bool × Nat) → List D → Env → Option Env
  | [], [], env => some env
  | (own, i) :: ts, d :: ds, env => if own && !isLst d then none else setPar ts ds (setS env i (if own then .o d else .p d))
  | _, _, _ => none

def WF : Nat := 1000000

/-- a suite that raises is not told of -/
def SR.noX : SR → SR
  | .exc _ _ _ _ => .no
  | r => r
/-- the name of an except clause goes -/
def SR.drop (i : Nat) : SR → SR
  | .nx env g => .nx (setS env i .u) g
  | .brk env g => .brk (setS env i .u) g
  | .cnt env g => .cnt (setS env i .u) g
  | .exc c p env g => .exc c p (setS env i .u) g
  | r => r
section
variable (C : Nat → List D → Gs → R D)
mutual
def evS : St → Env → Gs → SR
  | .frz is, env, g => .nx (frz is env) g
  | .asg i e, env, g => (evE C e env g).to env fun d g => .nx (setS env i (.p d)) g
  | .own i e, env, g => (evE C e env g).to env fun d g => if isLst d then .nx (setS env i (.o d)) g else .no
  | .cel i e, env, g => (evE C e env g).to env fun d g => match d with
    | .lst ds => if D.noLs ds then .nx (setS env i (.p (.mref g.length))) (g ++ [ds]) else .no
    | _ => .no
  | .asg2 i j e, env, g => (evE C e env g).to env fun d g => .nx (setS (setS env i (.p d)) j (.p d)) g
  | .par ts es, env, g => match evEs C es env g with
    | .ok ds g => match setPar ts ds env with
      | some env => .nx env g
      | none => .no
    | .exc c p g => .exc c p env g
    | .no => .no
  | .unp t e, env, g => (evE C e env g).to env fun d g => match bindT t d env with
    | some env => .nx env g
    | none => .no
  | .app i e, env, g => match getS env i with
    | .o (.lst ds) => (evE C e env g).to env fun d g => if Nat.blt ds.length lineN then .nx (setS env i (.o (.lst (ds ++ [d])))) g else .no
    | _ => .no
  | .setx i j e, env, g => (evE C e env g).to env fun d g => match getS env i with
    | .o (.lst ds) => (evE C j env g).to env fun k g => match k with
      | .int n => match ixN ds.length n with
        | some m => .nx (setS env i (.o (.lst (ds.set m d)))) g
        | none => .no
      | _ => .no
    | .o (.dic ks vs) => (evE C j env g).to env fun k g => if keyOk k && Nat.blt ks.length lineN then .nx (setS env i (.o (.dic (dput k d ks vs).1 (dput k d ks vs).2))) g else .no
    | .p (.mref a) => (evE C j env g).to env fun k g => match k with
      | .int n => match g[a]? with
        | some ds => match ixN ds.length n with
          | some m => if D.noL d then .nx env (g.set a (ds.set m d)) else .no
          | none => .no
        | none => .no
      | _ => .no
    | _ => .no
  | .ex e, env, g => (evE C e env g).to env fun _ g => .nx env g
  | .ite c a b, env, g => (evE C c env g).to env fun x g => match x with
    | .bl true => evSs a env g
    | .bl false => evSs b env g
    | _ => .no
  | .for_ t k es body, env, g => match evEs C es env g with
    | .ok ds g => match items k ds with
      | some xs => forL (fun env g => evSs body env g) t xs env g
      | none => .no
    | .exc c p g => .exc c p env g
    | .no => .no
  | .whl c body, env, g => whlL (fun env g => evE C c env g) (fun env g => evSs body env g) WF env g
  | .ret e, env, g => (evE C e env g).to env fun d g => .ret d g
  | .retN, _, g => .ret .non g
  | .rai c es, env, g => match es with
    | [] => .exc c .non env g
    | [e] => (evE C e env g).to env fun d g => .exc c d env g
    | _ => .no
  | .pass, env, g => .nx env g
  | .brk, env, g => .brk env g
  | .cnt, env, g => .cnt env g
  | .try_ body hs, env, g => match evSs body env g with
    | .exc c p env' g' => evH hs c p env' g'
    | r => r
def evSs : List St → Env → Gs → SR
  | [], env, g => .nx env g
  | s :: ss, env, g => match evS s env g with
    | .nx env g => evSs ss env g
    | r => r
def evH : List (Nat × Option Nat × List St) → Nat → D → Env → Gs → SR
  | [], c, p, env, g => .exc c p env g
  | h :: hs, c, p, env, g => if h.1 == c || h.1 == 0 then (match h.2.1 with
      | none => (evSs h.2.2 env g).noX
      | some i => ((evSs h.2.2 (setS env i (.p p)) g).drop i).noX) else evH hs c p env g
end
end

structure Fn where
  np : Nat
  nl : Nat
  fr : Bool
  body : List St

def entry (F : Fn) (ds : List D) : Env := ds.map Sl.p ++ List.replicate (F.nl - ds.length) Sl.u
def outR : SR → R D
  | .ret d g => .ok d g
  | .nx _ g => .ok .non g
  | .exc c p _ g => .exc c p g
  | _ => .no
def runF (C : Nat → List D → Gs → R D) (F : Fn) (ds : List D) (g : Gs) : R D :=
  if ds.length == F.np then outR (evSs C F.body (entry F ds) g) else .no

def evF (T : Nat → Option Fn) : Nat → Nat → List D → Gs → R D
  | 0, _, _, _ => .no
  | n + 1, f, ds, g => match T f with
    | some F => runF (evF T n) F ds g
    | none => .no
end Rz

/-! RzH -/
set_option Elab.async false
set_option linter.all false
set_option maxRecDepth 100000
set_option maxHeartbeats 4000000
namespace Rz
open PySem PySem.Spec PyProof.Rows L2
def sOf (l : List Nat) : Str := ⟨l.toArray⟩
structure Tab where
  T : Nat → Option Fn
  nam : Nat → Option (Str × Nat)
  glo : List (List Nat × D)
  cls : List (Nat × Str) := []
def blts : List Str := ["len", "int", "bool", "abs", "min", "max", "sum", "tuple", "list", "sorted", "any", "all", "isinstance", "range", "zip", "enumerate", "str", "dict"]
/-! ### the hook: facts, defs, one Bool -/
def obsR (fa : List He.Fa) (fn : List He.DefD) (ex : PySem.W.Frag → Bool) (K : PySem.W.Frag) : He.AlD := (((fa.all fun f => f.ok K) && fn.all fun d => d.ok K) && ex K, fn.map fun d => He.fnW K d.at_)
def SaysR (fa : List He.Fa) (fn : List He.DefD) (ex : PySem.W.Frag → Bool) (K : PySem.W.Frag) : Prop := obsR fa fn ex K = He.valD fn
theorem SaysR.d {fa : List He.Fa} {fn : List He.DefD} {ex : PySem.W.Frag → Bool} {K : PySem.W.Frag} (c : SaysR fa fn ex K) : He.SaysD fa fn K ∧ ex K = true := by
  have c1 : (((fa.all fun f => f.ok K) && fn.all fun d => d.ok K) && ex K) = true := congrArg (fun z : He.AlD => z.1) c
  have c2 : (fn.map fun d => He.fnW K d.at_) = fn.map He.DefD.val := congrArg (fun z : He.AlD => z.2) c
  rw [Bool.and_eq_true] at c1
  exact ⟨Prod.ext c1.1 c2, c1.2⟩
def obsRG (n : Nat) (fa : List He.Fa) (fn : List He.DefD) (ex : PySem.W.Frag → Bool) (g : Addr → Option Obj) : He.AlD := obsR fa fn ex (He.frG g (He.asD g n))
def hookR (n : Nat) (fa : List He.Fa) (fn : List He.DefD) (ex : PySem.W.Frag → Bool) : PySem.W.Hook where
  α := He.AlD
  obs := fun s => obsRG n fa fn ex s.heap.get?
  val := fun _ => He.valD fn
  says := fun _ h => ∃ K : PySem.W.Frag, K.In h ∧ SaysR fa fn ex K
  of := fun _ _ e => ⟨_, He.frG_in, e⟩
  keeps := fun _ _ _ ⟨K, hK, c⟩ k => ⟨K, PySem.W.Frag.In.keeps hK k, c⟩
theorem obsRG_eq {n : Nat} {fa : List He.Fa} {fn : List He.DefD} {ex : PySem.W.Frag → Bool} {g : Addr → Option Obj} {s : Shared} (h : ∀ a, g a = s.heap.get? a) : obsRG n fa fn ex g = (hookR n fa fn ex).obs s := by
  have e : g = s.heap.get? := funext h
  rw [e] <;> rfl
/-! ### constants of the top -/
mutual
def repB (K : PySem.W.Frag) : D → Value → Bool
  | .non, .none => true
  | .bl b, .bool c => b == c
  | .int i, .int j _ => decide (i = j)
  | .str s, .str x _ => decide (sOf s = x)
  | .tup ds, .ref a => match K.lookup a with
    | some ⟨.type c, _, .seq its _, _⟩ => decide (c = "tuple") && decide (its.size ≤ sizeLine) && repBs K ds its.toList
    | _ => false
  | _, _ => false
def repBs (K : PySem.W.Frag) : List D → List Value → Bool
  | [], [] => true
  | d :: ds, u :: us => repB K d u && repBs K ds us
  | _, _ => false
end
def constB (K : PySem.W.Frag) (x : Str) (d : D) : Bool := match PySem.W.nsIn K mainGlobals x with
  | some (some u) => repB K d u
  | _ => false
/-! ### the rows of a law -/
structure Rw where
  id : Nat
  name : Str
  ps : List Str
  N : List Str
  F : Fn
  at_ : Nat
def topOf (P : Program) (i : Nat) : Stmt := P.main.body.getD i (.Pass ⟨0, 0, 0, 0⟩)
def mkD (P : Program) (r : Rw) : He.DefD := ⟨(r.name, none), r.name, r.name, defArgs (topOf P r.at_), defBody (topOf P r.at_), defScope (topOf P r.at_), [], []⟩
def rowOf (rows : List Rw) (f : Nat) : Option Rw := rows.find? fun r => r.id == f
/-- the classes of exceptions: what is caught by what -/
def exB (c d : Nat) : Bool := c == d || d == 0
def exmFa (cls : List (Nat × Str)) : List He.Fa := cls.flatMap fun c => cls.map fun d => .exm c.2 d.2 (exB c.1 d.1)
def clsFa (cls : List (Nat × Str)) : List He.Fa := (cls.map fun c => .glo c.2) ++ ((cls.map fun c => .exc c.2) ++ exmFa cls)
def tabOf (rows : List Rw) (glo : List (List Nat × D)) (cls : List (Nat × Str) := []) : Tab := ⟨fun f => (rowOf rows f).map (·.F), fun f => (rowOf rows f).map fun r => (r.name, r.ps.length), glo, cls⟩
def faOf (rows : List Rw) (cls : List (Nat × Str) := []) : List He.Fa := (rows.map fun r => He.Fa.glo r.name) ++ (blts.map He.Fa.free ++ clsFa cls)
def exOf (glo : List (List Nat × D)) (K : PySem.W.Frag) : Bool := glo.all fun p => constB K (sOf p.1) p.2
end Rz

namespace Rz
open PySem PySem.Spec PyProof.Rows L2
abbrev i_common : Nat := 0
abbrev i_lowest : Nat := 1
abbrev i_plus : Nat := 40
abbrev i_minus : Nat := 41
abbrev i_times : Nat := 42
abbrev i_over : Nat := 72
abbrev i_is_less : Nat := 92
abbrev i_sum_of : Nat := 43
abbrev i_dot : Nat := 44
abbrev i_idle_table : Nat := 46
abbrev i_lead_of : Nat := 73
abbrev i_less_of : Nat := 74
abbrev i_with_row : Nat := 75
abbrev i_solved : Nat := 76
abbrev i_is_integer : Nat := 2
abbrev i_is_from : Nat := 3
abbrev i_is_any_fraction : Nat := 4
abbrev i_is_amount : Nat := 5
abbrev i_is_vessel : Nat := 6
abbrev i_is_step : Nat := 7
abbrev i_with_part : Nat := 8
abbrev i_moved_by : Nat := 9
abbrev i_waters_behind : Nat := 10
abbrev i_dirt_behind : Nat := 51
abbrev i_begins : Nat := 11
abbrev i_all_waters : Nat := 12
abbrev i_is_good : Nat := 13
abbrev i_is_dirt_for : Nat := 14
abbrev i_need_way : Nat := 15
abbrev i_need_dirt : Nat := 52
abbrev i_need_vessel : Nat := 103
abbrev i_round_of : Nat := 54
abbrev i_table_of : Nat := 55
abbrev i_places_from : Nat := 77
abbrev i_is_lid_of : Nat := 104
abbrev i_chosen : Nat := 105
abbrev i_greater : Nat := 106
abbrev i_least_for : Nat := 107
abbrev i_need_weights : Nat := 108
abbrev i_is_lid : Nat := 109
abbrev i_least_lid : Nat := 110
abbrev i_most_by : Nat := 111
abbrev i_common_lid : Nat := 112
abbrev i_law_sieve : Nat := 20
abbrev i_law_sift : Nat := 21
abbrev i_law_some : Nat := 22
abbrev i_law_low : Nat := 23
abbrev i_law_add : Nat := 59
abbrev i_law_sub : Nat := 60
abbrev i_law_mul : Nat := 61
abbrev i_law_less : Nat := 97
abbrev i_law_all : Nat := 62
abbrev i_law_vessels : Nat := 24
abbrev i_law_step : Nat := 25
abbrev i_law_flow : Nat := 26
abbrev i_law_start : Nat := 27
abbrev i_law_way : Nat := 28
abbrev i_law_dirt : Nat := 29
abbrev i_law_done : Nat := 63
abbrev i_law_rows : Nat := 64
abbrev i_law_led : Nat := 65
abbrev i_law_closed : Nat := 67
abbrev i_law_lead : Nat := 86
abbrev i_law_less_so : Nat := 87
abbrev i_law_grown : Nat := 88
abbrev i_law_solved : Nat := 113
abbrev i_law_reach : Nat := 114
abbrev i_law_least : Nat := 115
abbrev i_law_is_lid : Nat := 116
abbrev i_law_common : Nat := 117
abbrev i_law_weights : Nat := 118
abbrev i_law_can_go_in : Nat := 119
abbrev i_law_kept : Nat := 120
abbrev i_law_word_k05 : Nat := 121
abbrev i_law_k05 : Nat := 122
def b_common : List St := [
    .whl (.op .gt (.var 1) (.lit (.int 0))) [.par [(false, 0), (false, 1)] [.var 1, .op .mod (.var 0) (.var 1)]], .ret (.var 0)]
def d_common : Fn := ⟨2, 2, false, b_common⟩
def b_lowest : List St := [
    .ite (.op .lt (.var 1) (.lit (.int 0))) [.par [(false, 0), (false, 1)] [.op .sub (.lit (.int 0)) (.var 0), .op .sub (.lit (.int 0)) (.var 1)]] [],
    .asg 2 (.call i_common [.bi .abs [.var 0], .var 1]), .ret (.tup [.op .fdiv (.var 0) (.var 2), .op .fdiv (.var 1) (.var 2)])]
def d_lowest : Fn := ⟨2, 3, false, b_lowest⟩
def b_plus : List St := [
    .ret (.call i_lowest [.op .add (.op .mul (.ix (.var 0) (.lit (.int 0))) (.ix (.var 1) (.lit (.int 1)))) (.op .mul (.ix (.var 1) (.lit (.int 0))) (.ix (.var 0) (.lit (.int 1)))),
    .op .mul (.ix (.var 0) (.lit (.int 1))) (.ix (.var 1) (.lit (.int 1)))])]
def d_plus : Fn := ⟨2, 2, false, b_plus⟩
def b_minus : List St := [
    .ret (.call i_lowest [.op .sub (.op .mul (.ix (.var 0) (.lit (.int 0))) (.ix (.var 1) (.lit (.int 1)))) (.op .mul (.ix (.var 1) (.lit (.int 0))) (.ix (.var 0) (.lit (.int 1)))),
    .op .mul (.ix (.var 0) (.lit (.int 1))) (.ix (.var 1) (.lit (.int 1)))])]
def d_minus : Fn := ⟨2, 2, false, b_minus⟩
def b_times : List St := [
    .ret (.call i_lowest [.op .mul (.ix (.var 0) (.lit (.int 0))) (.ix (.var 1) (.lit (.int 0))),
    .op .mul (.ix (.var 0) (.lit (.int 1))) (.ix (.var 1) (.lit (.int 1)))])]
def d_times : Fn := ⟨2, 2, false, b_times⟩
def b_over : List St := [
    .ret (.call i_lowest [.op .mul (.ix (.var 0) (.lit (.int 0))) (.ix (.var 1) (.lit (.int 1))),
    .op .mul (.ix (.var 0) (.lit (.int 1))) (.ix (.var 1) (.lit (.int 0)))])]
def d_over : Fn := ⟨2, 2, false, b_over⟩
def b_is_less : List St := [
    .ret (.op .lt (.op .mul (.ix (.var 0) (.lit (.int 0))) (.ix (.var 1) (.lit (.int 1)))) (.op .mul (.ix (.var 1) (.lit (.int 0))) (.ix (.var 0) (.lit (.int 1)))))]
def d_is_less : Fn := ⟨2, 2, false, b_is_less⟩
def b_sum_of : List St := [
    .asg 1 (.glo [90, 69, 82, 79] (.tup [(.int 0), (.int 1)])), .for_ (.nm 2) .seq [.var 0] [.asg 1 (.call i_plus [.var 1, .var 2])], .ret (.var 1)]
def d_sum_of : Fn := ⟨1, 3, false, b_sum_of⟩
def b_dot : List St := [
    .ret (.call i_sum_of [.comp (.call i_times [.var 2, .var 3]) (.tp [(.nm 2), (.nm 3)]) .zip [.var 0, .var 1] []])]
def d_dot : Fn := ⟨2, 4, false, b_dot⟩
def b_idle_table : List St := [
    .ret (.bi .tuple [.comp (.bi .tuple [.comp (.tup [.bi .int [.op .eq (.var 2) (.var 1)],
    .lit (.int 1)]) (.nm 1) .seq [.bi .lrange [.var 0]] []]) (.nm 2) .seq [.bi .lrange [.var 0]] []])]
def d_idle_table : Fn := ⟨1, 3, false, b_idle_table⟩
def b_lead_of : List St := [
    .for_ (.tp [(.nm 1), (.nm 2)]) .enum [.var 0] [.ite (.op .ne (.ix (.var 2) (.lit (.int 0))) (.lit (.int 0))) [.ret (.var 1)] []], .ret (.lit (.non))]
def d_lead_of : Fn := ⟨1, 3, false, b_lead_of⟩
def b_less_of : List St := [
    .ret (.bi .tuple [.comp (.call i_minus [.var 3, .call i_times [.var 2, .var 4]]) (.tp [(.nm 3), (.nm 4)]) .zip [.var 0, .var 1] []])]
def d_less_of : Fn := ⟨3, 5, false, b_less_of⟩
def b_with_row : List St := [
    .for_ (.nm 2) .seq [.var 0] [.asg 1 (.call i_less_of [.var 1, .var 2, .ix (.var 1) (.call i_lead_of [.var 2])])], .asg 3 (.call i_lead_of [.var 1]),
    .ite (.op .is_ (.var 3) (.lit (.non))) [.ret (.var 0)] [], .asg 4 (.bi .tuple [.comp (.call i_over [.var 5, .ix (.var 1) (.var 3)]) (.nm 5) .seq [.var 1] []]),
    .ret (.op .add (.comp (.call i_less_of [.var 2, .var 4, .ix (.var 2) (.var 3)]) (.nm 2) .seq [.var 0] []) (.lst [.var 4]))]
def d_with_row : Fn := ⟨2, 6, false, b_with_row⟩
def b_solved : List St := [
    .par [(false, 2), (false, 3)] [.lst [], .bi .len [.ix (.var 0) (.lit (.int 0))]], .for_ (.tp [(.nm 4), (.nm 5)]) .zip [.var 0,
    .var 1] [.asg 2 (.call i_with_row [.var 2, .op .add (.bi .tuple [.var 4]) (.tup [.var 5])])], .asg 6 (.op .mul (.lst [.glo [90, 69, 82, 79] (.tup [(.int 0),
    (.int 1)])]) (.var 3)), .for_ (.nm 7) .seq [.var 2] [.asg 8 (.call i_lead_of [.var 7]), .ite (.op .eq (.var 8) (.var 3)) [.ret (.lit (.non))] [],
    .asg 6 (.op .add (.op .add (.sl .hi (.var 6) [.var 8]) (.lst [.ix (.var 7) (.var 3)])) (.sl .lo (.var 6) [.op .add (.var 8) (.lit (.int 1))]))],
    .ret (.bi .tuple [.var 6])]
def d_solved : Fn := ⟨2, 9, false, b_solved⟩
def b_is_integer : List St := [
    .ret (.and_ (.bi .isint [.var 0]) (.not (.bi .isbool [.var 0])))]
def d_is_integer : Fn := ⟨1, 1, false, b_is_integer⟩
def b_is_from : List St := [
    .ret (.and_ (.call i_is_integer [.var 0]) (.chain .le .le (.var 1) (.var 0) (.var 2)))]
def d_is_from : Fn := ⟨3, 3, false, b_is_from⟩
def b_is_any_fraction : List St := [
    .ite (.or_ (.not (.bi .istup [.var 0])) (.or_ (.op .ne (.bi .len [.var 0]) (.lit (.int 2))) (.or_ (.not (.call i_is_integer [.ix (.var 0) (.lit (.int 0))])) (.not (.call i_is_integer [.ix (.var 0) (.lit (.int 1))]))))) [.ret (.lit (.bl false))] [],
    .ret (.and_ (.op .ge (.ix (.var 0) (.lit (.int 1))) (.lit (.int 1))) (.op .eq (.call i_lowest [.ix (.var 0) (.lit (.int 0)),
    .ix (.var 0) (.lit (.int 1))]) (.var 0)))]
def d_is_any_fraction : Fn := ⟨1, 1, false, b_is_any_fraction⟩
def b_is_amount : List St := [
    .ret (.and_ (.call i_is_any_fraction [.var 0]) (.and_ (.chain .le .le (.lit (.int 0)) (.ix (.var 0) (.lit (.int 0))) (.glo [77, 79, 83, 84, 95, 80, 65, 82,
    84] (.int 100000000000000000000000000000000000000))) (.op .le (.ix (.var 0) (.lit (.int 1))) (.glo [77, 79, 83, 84, 95, 80, 65, 82,
    84] (.int 100000000000000000000000000000000000000)))))]
def d_is_amount : Fn := ⟨1, 1, false, b_is_amount⟩
def b_is_vessel : List St := [
    .ite (.or_ (.not (.bi .istup [.var 0])) (.or_ (.op .ne (.bi .len [.var 0]) (.lit (.int 3))) (.not (.call i_is_from [.ix (.var 0) (.lit (.int 0)), .lit (.int 2),
    .lit (.int 12)])))) [.ret (.lit (.bl false))] [], .ret (.and_ (.call i_is_from [.ix (.var 0) (.lit (.int 1)), .lit (.int 1),
    .op .sub (.ix (.var 0) (.lit (.int 0))) (.lit (.int 1))]) (.call i_is_from [.ix (.var 0) (.lit (.int 2)), .ix (.var 0) (.lit (.int 1)),
    .ix (.var 0) (.lit (.int 0))]))]
def d_is_vessel : Fn := ⟨1, 1, false, b_is_vessel⟩
def b_is_step : List St := [
    .ite (.or_ (.not (.bi .istup [.var 1])) (.or_ (.op .eq (.var 1) (.tup [])) (.not (.bi .isstr [.ix (.var 1) (.lit (.int 0))])))) [.ret (.lit (.bl false))] [],
    .ite (.op .eq (.ix (.var 1) (.lit (.int 0))) (.glo [84, 73, 80] (.str [116, 105,
    112]))) [.ret (.and_ (.op .eq (.bi .len [.var 1]) (.lit (.int 2))) (.call i_is_from [.ix (.var 1) (.lit (.int 1)), .lit (.int 0),
    .op .sub (.var 0) (.lit (.int 1))]))] [], .ite (.op .eq (.ix (.var 1) (.lit (.int 0))) (.glo [70, 73, 76, 76] (.str [102, 105, 108,
    108]))) [.ret (.and_ (.op .eq (.bi .len [.var 1]) (.lit (.int 3))) (.and_ (.call i_is_from [.ix (.var 1) (.lit (.int 1)), .lit (.int 0),
    .op .sub (.var 0) (.lit (.int 1))]) (.call i_is_from [.ix (.var 1) (.lit (.int 2)), .lit (.int 1), .lit (.int 12)])))] [],
    .ite (.or_ (.op .ne (.ix (.var 1) (.lit (.int 0))) (.glo [80, 79, 85, 82] (.str [112, 111, 117,
    114]))) (.or_ (.op .ne (.bi .len [.var 1]) (.lit (.int 4))) (.not (.call i_is_from [.ix (.var 1) (.lit (.int 3)), .lit (.int 1),
    .lit (.int 12)])))) [.ret (.lit (.bl false))] [], .ret (.and_ (.call i_is_from [.ix (.var 1) (.lit (.int 1)), .lit (.int 0),
    .op .sub (.var 0) (.lit (.int 1))]) (.and_ (.call i_is_from [.ix (.var 1) (.lit (.int 2)), .lit (.int 0),
    .op .sub (.var 0) (.lit (.int 1))]) (.op .ne (.ix (.var 1) (.lit (.int 1))) (.ix (.var 1) (.lit (.int 2))))))]
def d_is_step : Fn := ⟨2, 2, false, b_is_step⟩
def b_with_part : List St := [
    .ret (.op .add (.op .add (.sl .hi (.var 0) [.var 1]) (.tup [.var 2])) (.sl .lo (.var 0) [.op .add (.var 1) (.lit (.int 1))]))]
def d_with_part : Fn := ⟨3, 3, true, b_with_part⟩
def b_moved_by : List St := [
    .unp (.tp [(.nm 3), (.nm 4), (.nm 5)]) (.ix (.var 0) (.ix (.var 2) (.lit (.int 1)))), .asg 6 (.ix (.var 1) (.ix (.var 2) (.lit (.int 1)))),
    .ite (.op .eq (.ix (.var 2) (.lit (.int 0))) (.glo [70, 73, 76, 76] (.str [102, 105, 108, 108]))) [.ret (.bi .min2 [.ix (.var 2) (.lit (.int 2)),
    .op .sub (.var 3) (.var 6)])] [], .ite (.op .eq (.ix (.var 2) (.lit (.int 0))) (.glo [84, 73, 80] (.str [116, 105,
    112]))) [.ret (.op .sub (.var 6) (.var 4))] [], .ret (.bi .min3 [.ix (.var 2) (.lit (.int 3)), .op .sub (.var 6) (.var 4),
    .op .sub (.ix (.ix (.var 0) (.ix (.var 2) (.lit (.int 2)))) (.lit (.int 0))) (.ix (.var 1) (.ix (.var 2) (.lit (.int 2))))])]
def d_moved_by : Fn := ⟨3, 7, false, b_moved_by⟩
def b_waters_behind : List St := [
    .asg 3 (.call i_moved_by [.var 0, .var 1, .var 2]), .ite (.op .eq (.ix (.var 2) (.lit (.int 0))) (.glo [70, 73, 76, 76] (.str [102, 105, 108,
    108]))) [.ret (.call i_with_part [.var 1, .ix (.var 2) (.lit (.int 1)), .op .add (.ix (.var 1) (.ix (.var 2) (.lit (.int 1)))) (.var 3)])] [],
    .asg 4 (.call i_with_part [.var 1, .ix (.var 2) (.lit (.int 1)), .op .sub (.ix (.var 1) (.ix (.var 2) (.lit (.int 1)))) (.var 3)]),
    .ret (.ite (.op .eq (.ix (.var 2) (.lit (.int 0))) (.glo [84, 73, 80] (.str [116, 105, 112]))) (.var 4) (.call i_with_part [.var 4,
    .ix (.var 2) (.lit (.int 2)), .op .add (.ix (.var 1) (.ix (.var 2) (.lit (.int 2)))) (.var 3)]))]
def d_waters_behind : Fn := ⟨3, 5, false, b_waters_behind⟩
def b_dirt_behind : List St := [
    .ite (.op .eq (.ix (.var 3) (.lit (.int 0))) (.glo [70, 73, 76, 76] (.str [102, 105, 108, 108]))) [.ret (.tup [.var 2, .glo [90, 69, 82, 79] (.tup [(.int 0),
    (.int 1)])])] [], .asg 4 (.call i_times [.ix (.var 2) (.ix (.var 3) (.lit (.int 1))), .call i_lowest [.call i_moved_by [.var 0, .var 1, .var 3],
    .ix (.var 1) (.ix (.var 3) (.lit (.int 1)))]]), .asg 5 (.call i_with_part [.var 2, .ix (.var 3) (.lit (.int 1)),
    .call i_minus [.ix (.var 2) (.ix (.var 3) (.lit (.int 1))), .var 4]]), .ite (.op .eq (.ix (.var 3) (.lit (.int 0))) (.glo [84, 73, 80] (.str [116, 105,
    112]))) [.ret (.tup [.var 5, .var 4])] [], .ret (.tup [.call i_with_part [.var 5, .ix (.var 3) (.lit (.int 2)),
    .call i_plus [.ix (.var 2) (.ix (.var 3) (.lit (.int 2))), .var 4]], .glo [90, 69, 82, 79] (.tup [(.int 0), (.int 1)])])]
def d_dirt_behind : Fn := ⟨4, 6, false, b_dirt_behind⟩
def b_begins : List St := [
    .ret (.bi .tuple [.comp (.ix (.var 1) (.lit (.int 2))) (.nm 1) .seq [.var 0] []])]
def d_begins : Fn := ⟨1, 2, false, b_begins⟩
def b_all_waters : List St := [
    .unp (.tp [(.nm 1), (.nm 2)]) (.var 0), .asg 3 (.lst [.call i_begins [.var 1]]),
    .for_ (.nm 4) .seq [.var 2] [.asg 3 (.op .add (.var 3) (.lst [.call i_waters_behind [.var 1, .ix (.var 3) (.neg (.lit (.int 1))), .var 4]]))],
    .ret (.sl .lo (.var 3) [.lit (.int 1)])]
def d_all_waters : Fn := ⟨1, 5, true, b_all_waters⟩
def b_is_good : List St := [
    .ite (.or_ (.not (.bi .istup [.var 0])) (.or_ (.op .ne (.bi .len [.var 0]) (.lit (.int 2))) (.not (.bi .istup [.ix (.var 0) (.lit (.int 0))])))) [.ret (.lit (.bl false))] [],
    .ite (.or_ (.not (.chain .le .le (.lit (.int 1)) (.bi .len [.ix (.var 0) (.lit (.int 0))]) (.lit (.int 3)))) (.not (.bi .all [.comp (.call i_is_vessel [.var 1]) (.nm 1) .seq [.ix (.var 0) (.lit (.int 0))] []]))) [.ret (.lit (.bl false))] [],
    .ite (.or_ (.not (.bi .istup [.ix (.var 0) (.lit (.int 1))])) (.not (.chain .le .le (.lit (.int 1)) (.bi .len [.ix (.var 0) (.lit (.int 1))]) (.lit (.int 8))))) [.ret (.lit (.bl false))] [],
    .ite (.not (.bi .all [.comp (.call i_is_step [.bi .len [.ix (.var 0) (.lit (.int 0))],
    .var 2]) (.nm 2) .seq [.ix (.var 0) (.lit (.int 1))] []])) [.ret (.lit (.bl false))] [],
    .ret (.op .eq (.ix (.call i_all_waters [.var 0]) (.neg (.lit (.int 1)))) (.call i_begins [.ix (.var 0) (.lit (.int 0))]))]
def d_is_good : Fn := ⟨1, 3, false, b_is_good⟩
def b_is_dirt_for : List St := [
    .ret (.and_ (.bi .istup [.var 1]) (.and_ (.op .eq (.bi .len [.var 1]) (.var 0)) (.bi .all [.comp (.call i_is_amount [.var 2]) (.nm 2) .seq [.var 1] []])))]
def d_is_dirt_for : Fn := ⟨2, 3, false, b_is_dirt_for⟩
def b_need_way : List St := [
    .ite (.not (.call i_is_good [.var 0])) [.rai 1 []] []]
def d_need_way : Fn := ⟨1, 1, false, b_need_way⟩
def b_need_dirt : List St := [
    .ite (.not (.call i_is_dirt_for [.var 0, .var 1])) [.rai 2 []] []]
def d_need_dirt : Fn := ⟨2, 2, false, b_need_dirt⟩
def b_need_vessel : List St := [
    .ite (.not (.call i_is_from [.var 1, .lit (.int 0), .op .sub (.var 0) (.lit (.int 1))])) [.rai 4 []] []]
def d_need_vessel : Fn := ⟨2, 2, false, b_need_vessel⟩
def b_round_of : List St := [
    .unp (.tp [(.nm 2), (.nm 3)]) (.var 0), .asg 4 (.call i_begins [.var 2]), .for_ (.nm 5) .seq [.var 3] [.unp (.tp [(.nm 1), (.nm 6)]) (.call i_dirt_behind [.var 2,
    .var 4, .var 1, .var 5]), .asg 4 (.call i_waters_behind [.var 2, .var 4, .var 5])], .ret (.var 1)]
def d_round_of : Fn := ⟨2, 7, false, b_round_of⟩
def b_table_of : List St := [
    .ret (.bi .tuple [.comp (.call i_round_of [.var 0, .var 1]) (.nm 1) .seq [.call i_idle_table [.bi .len [.ix (.var 0) (.lit (.int 0))]]] []])]
def d_table_of : Fn := ⟨1, 2, false, b_table_of⟩
def b_places_from : List St := [
    .par [(false, 2), (false, 3)] [.lst [.var 1], .lst [.var 1]], .whl (.op .ne (.var 3) (.lst [])) [.par [(false, 4), (false, 3)] [.ix (.var 3) (.lit (.int 0)),
    .sl .lo (.var 3) [.lit (.int 1)]], .for_ (.tp [(.nm 5), (.nm 6)]) .enum [.ix (.var 0) (.var 4)] [.ite (.and_ (.op .ne (.var 6) (.glo [90, 69, 82,
    79] (.tup [(.int 0), (.int 1)]))) (.op .notin (.var 5) (.var 2))) [.par [(false, 2), (false, 3)] [.op .add (.var 2) (.lst [.var 5]),
    .op .add (.var 3) (.lst [.var 5])]] []]], .ret (.bi .sorted [.comp (.bi .int [.var 7]) (.nm 7) .seq [.var 2] []])]
def d_places_from : Fn := ⟨2, 8, true, b_places_from⟩
def b_is_lid_of : List St := [
    .ite (.call i_is_less [.ix (.var 2) (.var 1), .glo [85, 78, 73, 84] (.tup [(.int 1), (.int 1)])]) [.ret (.lit (.bl false))] [],
    .ret (.not (.bi .any [.comp (.call i_is_less [.var 4, .call i_dot [.var 3, .var 2]]) (.tp [(.nm 3), (.nm 4)]) .zip [.var 0, .var 2] []]))]
def d_is_lid_of : Fn := ⟨3, 5, false, b_is_lid_of⟩
def b_chosen : List St := [
    .asg 2 (.lst [.tup []]), .for_ (.tp [(.nm 3), (.nm 4)]) .zip [.var 0,
    .var 1] [.asg 2 (.op .add (.comp (.op .add (.var 5) (.tup [.var 3])) (.nm 5) .seq [.var 2] []) (.comp (.op .add (.var 5) (.tup [.var 4])) (.nm 5) .seq [.var 2] []))],
    .ret (.var 2)]
def d_chosen : Fn := ⟨2, 6, false, b_chosen⟩
def b_greater : List St := [
    .ret (.bi .tuple [.comp (.ite (.call i_is_less [.var 2, .var 3]) (.var 3) (.var 2)) (.tp [(.nm 2), (.nm 3)]) .zip [.var 0, .var 1] []])]
def d_greater : Fn := ⟨2, 4, false, b_greater⟩
def b_least_for : List St := [
    .asg 2 (.comp (.var 3) (.nm 3) .rng [.bi .len [.var 0]] [.and_ (.op .ne (.var 3) (.var 1)) (.op .isin (.var 1) (.call i_places_from [.var 0, .var 3]))]),
    .asg 4 (.comp (.ite (.op .eq (.var 3) (.var 1)) (.glo [85, 78, 73, 84] (.tup [(.int 1), (.int 1)])) (.glo [90, 69, 82, 79] (.tup [(.int 0),
    (.int 1)]))) (.nm 3) .seq [.bi .lrange [.bi .len [.var 0]]] []), .ite (.op .eq (.var 2) (.lst [])) [.ret (.bi .tuple [.var 4])] [], .par [(true, 5), (true,
    6)] [.lst [], .lst []], .for_ (.nm 3) .seq [.var 2] [.app 5 (.bi .tuple [.comp (.call i_minus [.tup [.bi .int [.op .eq (.var 3) (.var 7)], .lit (.int 1)],
    .ix (.ix (.var 0) (.var 3)) (.var 7)]) (.nm 7) .seq [.var 2] []]), .app 6 (.ix (.ix (.var 0) (.var 3)) (.var 1))], .frz [5, 6], .for_ (.tp [(.nm 3),
    (.nm 8)]) .zip [.var 2, .call i_solved [.var 5,
    .var 6]] [.asg 4 (.op .add (.op .add (.sl .hi (.var 4) [.var 3]) (.lst [.var 8])) (.sl .lo (.var 4) [.op .add (.var 3) (.lit (.int 1))]))],
    .ret (.bi .tuple [.var 4])]
def d_least_for : Fn := ⟨2, 9, false, b_least_for⟩
def b_need_weights : List St := [
    .ite (.not (.call i_is_dirt_for [.var 0, .var 1])) [.rai 5 []] []]
def d_need_weights : Fn := ⟨2, 2, false, b_need_weights⟩
def b_is_lid : List St := [
    .ex (.call i_need_way [.var 0]), .ex (.call i_need_vessel [.bi .len [.ix (.var 0) (.lit (.int 0))], .var 1]),
    .ex (.call i_need_weights [.bi .len [.ix (.var 0) (.lit (.int 0))], .var 2]), .ret (.call i_is_lid_of [.call i_table_of [.var 0], .var 1, .var 2])]
def d_is_lid : Fn := ⟨3, 3, false, b_is_lid⟩
def b_least_lid : List St := [
    .ex (.call i_need_way [.var 0]), .ex (.call i_need_vessel [.bi .len [.ix (.var 0) (.lit (.int 0))], .var 1]), .ret (.call i_least_for [.call i_table_of [.var 0],
    .var 1])]
def d_least_lid : Fn := ⟨2, 2, false, b_least_lid⟩
def b_most_by : List St := [
    .ex (.call i_need_way [.var 0]), .ex (.call i_need_vessel [.bi .len [.ix (.var 0) (.lit (.int 0))], .var 1]),
    .ex (.call i_need_weights [.bi .len [.ix (.var 0) (.lit (.int 0))], .var 2]), .ite (.not (.call i_is_lid_of [.call i_table_of [.var 0], .var 1,
    .var 2])) [.rai 5 []] [], .ex (.call i_need_dirt [.bi .len [.ix (.var 0) (.lit (.int 0))], .var 3]), .ret (.call i_dot [.var 2, .var 3])]
def d_most_by : Fn := ⟨4, 4, false, b_most_by⟩
def b_common_lid : List St := [
    .ex (.call i_need_way [.var 0]), .ex (.call i_need_way [.var 1]), .ite (.op .ne (.ix (.var 0) (.lit (.int 0))) (.ix (.var 1) (.lit (.int 0)))) [.rai 11 []] [],
    .ex (.call i_need_vessel [.bi .len [.ix (.var 0) (.lit (.int 0))], .var 2]), .asg 3 (.op .mul (.tup [.glo [90, 69, 82, 79] (.tup [(.int 0),
    (.int 1)])]) (.bi .len [.ix (.var 0) (.lit (.int 0))])), .for_ (.nm 4) .seq [.call i_chosen [.call i_table_of [.var 0],
    .call i_table_of [.var 1]]] [.asg 3 (.call i_greater [.var 3, .call i_least_for [.var 4, .var 2]])], .ret (.var 3)]
def d_common_lid : Fn := ⟨3, 5, false, b_common_lid⟩
def b_law_sieve : List St := [
    .asg 2 (.ite (.op .lt (.var 1) (.bi .len [.var 0])) (.bi .abs [.bi .int [.ix (.var 0) (.var 1)]]) (.op .add (.op .mul (.lit (.int 47)) (.var 1)) (.lit (.int 23)))),
    .ret (.lst [.ite (.op .ge (.var 2) (.op .pow (.lit (.int 10)) (.lit (.int 18)))) (.var 2) (.lit (.int 0)),
    .op .mod (.bi .int [.op .add (.op .add (.op .mod (.bi .int [.var 2]) (.lit (.int 2147482811))) (.op .mul (.lit (.int 70001)) (.var 1))) (.lit (.int 89))]) (.lit (.int 2147482811))])]
def d_law_sieve : Fn := ⟨2, 3, true, b_law_sieve⟩
def b_law_sift : List St := [
    .ite (.op .gt (.ix (.var 0) (.lit (.int 0))) (.lit (.int 0))) [.asg 2 (.op .mod (.bi .int [.ix (.var 0) (.lit (.int 0))]) (.var 1)),
    .setx 0 (.lit (.int 0)) (.op .fdiv (.bi .int [.ix (.var 0) (.lit (.int 0))]) (.var 1)), .ret (.var 2)] [],
    .setx 0 (.lit (.int 1)) (.op .mod (.bi .int [.op .add (.op .mul (.ix (.var 0) (.lit (.int 1))) (.lit (.int 40009))) (.lit (.int 1013))]) (.lit (.int 2147482811))),
    .asg 3 (.op .mod (.op .mul (.bi .int [.ix (.var 0) (.lit (.int 1))]) (.op .add (.op .fdiv (.bi .int [.ix (.var 0) (.lit (.int 1))]) (.lit (.int 29))) (.lit (.int 31)))) (.lit (.int 2147482763))),
    .ret (.op .mod (.bi .int [.op .fdiv (.bi .int [.var 3]) (.lit (.int 27))]) (.var 1))]
def d_law_sift : Fn := ⟨2, 4, false, b_law_sift⟩
def b_law_some : List St := [
    .ret (.ix (.var 1) (.call i_law_sift [.var 0, .bi .len [.var 1]]))]
def d_law_some : Fn := ⟨2, 2, false, b_law_some⟩
def b_law_low : List St := [
    .par [(false, 2), (false, 3)] [.bi .abs [.var 0], .bi .abs [.var 1]], .whl (.op .ne (.var 3) (.lit (.int 0))) [.par [(false, 2), (false, 3)] [.var 3,
    .op .mod (.var 2) (.var 3)]], .ret (.ite (.op .gt (.var 1) (.lit (.int 0))) (.tup [.op .fdiv (.var 0) (.var 2),
    .op .fdiv (.var 1) (.var 2)]) (.tup [.op .fdiv (.neg (.var 0)) (.var 2), .op .fdiv (.neg (.var 1)) (.var 2)]))]
def d_law_low : Fn := ⟨2, 4, false, b_law_low⟩
def b_law_add : List St := [
    .ret (.call i_law_low [.op .add (.op .mul (.ix (.var 0) (.lit (.int 0))) (.ix (.var 1) (.lit (.int 1)))) (.op .mul (.ix (.var 1) (.lit (.int 0))) (.ix (.var 0) (.lit (.int 1)))),
    .op .mul (.ix (.var 0) (.lit (.int 1))) (.ix (.var 1) (.lit (.int 1)))])]
def d_law_add : Fn := ⟨2, 2, false, b_law_add⟩
def b_law_sub : List St := [
    .ret (.call i_law_low [.op .sub (.op .mul (.ix (.var 0) (.lit (.int 0))) (.ix (.var 1) (.lit (.int 1)))) (.op .mul (.ix (.var 1) (.lit (.int 0))) (.ix (.var 0) (.lit (.int 1)))),
    .op .mul (.ix (.var 0) (.lit (.int 1))) (.ix (.var 1) (.lit (.int 1)))])]
def d_law_sub : Fn := ⟨2, 2, false, b_law_sub⟩
def b_law_mul : List St := [
    .ret (.call i_law_low [.op .mul (.ix (.var 0) (.lit (.int 0))) (.ix (.var 1) (.lit (.int 0))),
    .op .mul (.ix (.var 0) (.lit (.int 1))) (.ix (.var 1) (.lit (.int 1)))])]
def d_law_mul : Fn := ⟨2, 2, false, b_law_mul⟩
def b_law_less : List St := [
    .ret (.op .lt (.op .mul (.ix (.var 0) (.lit (.int 0))) (.ix (.var 1) (.lit (.int 1)))) (.op .mul (.ix (.var 1) (.lit (.int 0))) (.ix (.var 0) (.lit (.int 1)))))]
def d_law_less : Fn := ⟨2, 2, false, b_law_less⟩
def b_law_all : List St := [
    .asg 1 (.tup [.lit (.int 0), .lit (.int 1)]), .for_ (.nm 2) .seq [.var 0] [.asg 1 (.call i_law_add [.var 1, .var 2])], .ret (.var 1)]
def d_law_all : Fn := ⟨1, 3, false, b_law_all⟩
def b_law_vessels : List St := [
    .asg 2 (.tup []), .for_ (.nm 3) .rng [.op .add (.var 1) (.call i_law_sift [.var 0,
    .op .sub (.lit (.int 4)) (.var 1)])] [.asg 4 (.op .add (.lit (.int 2)) (.call i_law_sift [.var 0, .call i_law_some [.var 0, .lst [.lit (.int 4),
    .lit (.int 11)]]])), .asg 5 (.op .add (.lit (.int 1)) (.call i_law_sift [.var 0, .call i_law_some [.var 0, .lst [.lit (.int 1),
    .op .sub (.var 4) (.lit (.int 1))]]])), .asg 6 (.op .mul (.call i_law_sift [.var 0,
    .op .add (.op .sub (.var 4) (.var 5)) (.lit (.int 1))]) (.call i_law_sift [.var 0, .lit (.int 2)])), .asg 2 (.op .add (.var 2) (.tup [.tup [.var 4, .var 5,
    .op .add (.var 5) (.var 6)]]))], .ret (.var 2)]
def d_law_vessels : Fn := ⟨2, 7, false, b_law_vessels⟩
def b_law_step : List St := [
    .par [(false, 2), (false, 3)] [.call i_law_sift [.var 0, .var 1], .call i_law_sift [.var 0, .lit (.int 5)]],
    .asg 4 (.op .add (.lit (.int 1)) (.call i_law_sift [.var 0, .call i_law_some [.var 0, .lst [.lit (.int 4), .lit (.int 12)]]])),
    .ite (.op .lt (.var 3) (.lit (.int 2))) [.ret (.tup [.lit (.str [102, 105, 108, 108]), .var 2, .var 4])] [],
    .ite (.and_ (.op .lt (.var 3) (.lit (.int 4))) (.op .gt (.var 1) (.lit (.int 1)))) [.asg 5 (.op .mod (.op .add (.op .add (.var 2) (.lit (.int 1))) (.call i_law_sift [.var 0,
    .op .sub (.var 1) (.lit (.int 1))])) (.var 1)), .ret (.tup [.lit (.str [112, 111, 117, 114]), .var 2, .var 5, .var 4])] [], .ret (.tup [.lit (.str [116, 105,
    112]), .var 2])]
def d_law_step : Fn := ⟨2, 6, false, b_law_step⟩
def b_law_flow : List St := [
    .par [(false, 3), (true, 4)] [.ix (.var 2) (.lit (.int 1)), .bi .list [.var 1]], .ite (.op .eq (.ix (.var 2) (.lit (.int 0))) (.lit (.str [102, 105, 108,
    108]))) [.asg 5 (.bi .min2 [.ix (.var 2) (.lit (.int 2)), .op .sub (.ix (.ix (.var 0) (.var 3)) (.lit (.int 0))) (.ix (.var 1) (.var 3))]),
    .setx 4 (.var 3) (.op .add (.ix (.var 1) (.var 3)) (.var 5))] [.ite (.op .eq (.ix (.var 2) (.lit (.int 0))) (.lit (.str [116, 105,
    112]))) [.asg 5 (.op .sub (.ix (.var 1) (.var 3)) (.ix (.ix (.var 0) (.var 3)) (.lit (.int 1)))),
    .setx 4 (.var 3) (.ix (.ix (.var 0) (.var 3)) (.lit (.int 1)))] [.asg 6 (.ix (.var 2) (.lit (.int 2))), .asg 5 (.bi .min2 [.ix (.var 2) (.lit (.int 3)),
    .op .sub (.ix (.ix (.var 0) (.var 6)) (.lit (.int 0))) (.ix (.var 1) (.var 6))]), .asg 5 (.bi .min2 [.var 5,
    .op .sub (.ix (.var 1) (.var 3)) (.ix (.ix (.var 0) (.var 3)) (.lit (.int 1)))]), .setx 4 (.var 3) (.op .sub (.ix (.var 1) (.var 3)) (.var 5)),
    .setx 4 (.var 6) (.op .add (.ix (.var 1) (.var 6)) (.var 5))]], .frz [4], .ret (.tup [.var 5, .bi .tuple [.var 4]])]
def d_law_flow : Fn := ⟨3, 7, false, b_law_flow⟩
def b_law_start : List St := [
    .ret (.bi .tuple [.comp (.ix (.var 1) (.lit (.int 2))) (.nm 1) .seq [.var 0] []])]
def d_law_start : Fn := ⟨1, 2, false, b_law_start⟩
def b_law_way : List St := [
    .par [(false, 2), (false, 3)] [.tup [], .call i_law_start [.var 1]], .for_ (.nm 4) .rng [.op .add (.lit (.int 1)) (.call i_law_sift [.var 0,
    .op .sub (.lit (.int 8)) (.op .mul (.lit (.int 2)) (.bi .len [.var 1]))])] [.asg 5 (.call i_law_step [.var 0, .bi .len [.var 1]]), .par [(false, 2), (false,
    3)] [.op .add (.var 2) (.tup [.var 5]), .ix (.call i_law_flow [.var 1, .var 3, .var 5]) (.lit (.int 1))]], .for_ (.nm 6) .rng [.bi .len [.var 1]] [.par [(true,
    7), (false, 8)] [.lst [], .op .sub (.ix (.ix (.var 1) (.var 6)) (.lit (.int 2))) (.ix (.var 3) (.var 6))],
    .ite (.op .lt (.var 8) (.lit (.int 0))) [.par [(true, 7), (false, 8)] [.lst [.tup [.lit (.str [116, 105, 112]), .var 6]],
    .op .sub (.ix (.ix (.var 1) (.var 6)) (.lit (.int 2))) (.ix (.ix (.var 1) (.var 6)) (.lit (.int 1)))]] [],
    .ite (.op .gt (.var 8) (.lit (.int 0))) [.app 7 (.tup [.lit (.str [102, 105, 108, 108]), .var 6, .var 8])] [], .frz [7],
    .asg 2 (.op .add (.var 2) (.bi .tuple [.var 7]))], .ret (.tup [.var 1, .var 2])]
def d_law_way : Fn := ⟨2, 9, false, b_law_way⟩
def b_law_dirt : List St := [
    .asg 2 (.tup []), .for_ (.nm 3) .rng [.var 1] [.asg 4 (.call i_law_some [.var 0, .lst [.lit (.int 0), .lit (.int 1), .lit (.int 3), .lit (.int 10), .lit (.int 25),
    .op .pow (.lit (.int 10)) (.lit (.int 20))]]), .asg 2 (.op .add (.var 2) (.tup [.call i_law_low [.var 4, .call i_law_some [.var 0, .lst [.lit (.int 1),
    .lit (.int 1), .lit (.int 2), .lit (.int 9)]]]]))], .ret (.var 2)]
def d_law_dirt : Fn := ⟨2, 5, false, b_law_dirt⟩
def b_law_done : List St := [
    .unp (.tp [(.nm 3), (.nm 4)]) (.var 0), .par [(false, 5), (false, 6)] [.call i_law_start [.var 3], .tup [.lit (.int 0), .lit (.int 1)]],
    .for_ (.nm 7) .seq [.op .mul (.var 4) (.var 2)] [.unp (.tp [(.nm 8), (.nm 9)]) (.call i_law_flow [.var 3, .var 5, .var 7]),
    .ite (.op .ne (.ix (.var 7) (.lit (.int 0))) (.lit (.str [102, 105, 108, 108]))) [.asg 10 (.call i_law_mul [.ix (.var 1) (.ix (.var 7) (.lit (.int 1))),
    .call i_law_low [.var 8, .ix (.var 5) (.ix (.var 7) (.lit (.int 1)))]]), .own 11 (.bi .list [.var 1]),
    .setx 11 (.ix (.var 7) (.lit (.int 1))) (.call i_law_sub [.ix (.var 1) (.ix (.var 7) (.lit (.int 1))), .var 10]),
    .ite (.op .eq (.ix (.var 7) (.lit (.int 0))) (.lit (.str [112, 111, 117,
    114]))) [.setx 11 (.ix (.var 7) (.lit (.int 2))) (.call i_law_add [.ix (.var 1) (.ix (.var 7) (.lit (.int 2))), .var 10])] [.asg 6 (.call i_law_add [.var 6,
    .var 10])], .frz [11], .asg 1 (.bi .tuple [.var 11])] [], .asg 5 (.var 9)], .ret (.tup [.var 1, .var 6])]
def d_law_done : Fn := ⟨3, 12, false, b_law_done⟩
def b_law_rows : List St := [
    .par [(false, 1), (false, 2)] [.bi .len [.ix (.var 0) (.lit (.int 0))], .tup []],
    .for_ (.nm 3) .rng [.var 1] [.asg 4 (.bi .tuple [.comp (.tup [.bi .int [.op .eq (.var 5) (.var 3)], .lit (.int 1)]) (.nm 5) .rng [.var 1] []]),
    .asg 2 (.op .add (.var 2) (.tup [.ix (.call i_law_done [.var 0, .var 4, .lit (.int 1)]) (.lit (.int 0))]))], .ret (.var 2)]
def d_law_rows : Fn := ⟨1, 6, false, b_law_rows⟩
def b_law_led : List St := [
    .asg 2 (.tup []), .for_ (.nm 3) .rng [.bi .len [.var 1]] [.asg 4 (.comp (.call i_law_mul [.var 5, .ix (.var 6) (.var 3)]) (.tp [(.nm 5), (.nm 6)]) .zip [.var 0,
    .var 1] []), .asg 2 (.op .add (.var 2) (.tup [.call i_law_all [.var 4]]))], .ret (.var 2)]
def d_law_led : Fn := ⟨2, 7, false, b_law_led⟩
def b_law_closed : List St := [
    .par [(false, 1), (false, 2)] [.op .add (.lit (.int 3)) (.call i_law_sift [.var 0, .lit (.int 8)]), .op .add (.lit (.int 3)) (.call i_law_sift [.var 0,
    .lit (.int 8)])], .asg 3 (.call i_law_sift [.var 0, .lit (.int 4)]), .asg 4 (.op .add (.lit (.int 1)) (.call i_law_sift [.var 0,
    .bi .min2 [.op .sub (.var 1) (.lit (.int 2)), .lit (.int 2)]])), .asg 5 (.tup [.tup [.var 1, .lit (.int 1), .op .add (.var 4) (.lit (.int 1))],
    .tup [.op .add (.var 2) (.var 4), .lit (.int 1), .op .sub (.var 2) (.lit (.int 1))]]), .asg 6 (.tup [.tup [.lit (.str [112, 111, 117, 114]), .lit (.int 0),
    .lit (.int 1), .var 4], .tup [.lit (.str [112, 111, 117, 114]), .lit (.int 1), .lit (.int 0), .var 4]]),
    .ite (.op .eq (.var 3) (.lit (.int 0))) [.ret (.tup [.var 5, .var 6])] [],
    .ite (.op .eq (.var 3) (.lit (.int 1))) [.ret (.tup [.op .add (.var 5) (.tup [.tup [.lit (.int 6), .lit (.int 2), .lit (.int 2)]]),
    .op .add (.var 6) (.tup [.tup [.lit (.str [102, 105, 108, 108]), .lit (.int 2), .lit (.int 3)], .tup [.lit (.str [116, 105, 112]), .lit (.int 2)]])])] [],
    .ite (.op .eq (.var 3) (.lit (.int 2))) [.ret (.tup [.op .add (.var 5) (.tup [.tup [.lit (.int 6), .lit (.int 2), .lit (.int 3)]]),
    .op .add (.var 6) (.tup [.tup [.lit (.str [112, 111, 117, 114]), .lit (.int 2), .lit (.int 0), .lit (.int 1)], .tup [.lit (.str [112, 111, 117, 114]),
    .lit (.int 0), .lit (.int 2), .lit (.int 1)]])])] [], .ret (.tup [.op .add (.var 5) (.tup [.tup [.lit (.int 6), .lit (.int 2), .lit (.int 2)]]),
    .op .add (.var 6) (.tup [.tup [.lit (.str [102, 105, 108, 108]), .lit (.int 2), .lit (.int 1)], .tup [.lit (.str [112, 111, 117, 114]), .lit (.int 2),
    .lit (.int 0), .lit (.int 1)], .tup [.lit (.str [112, 111, 117, 114]), .lit (.int 0), .lit (.int 2), .lit (.int 1)], .tup [.lit (.str [116, 105, 112]),
    .lit (.int 2)]])])]
def d_law_closed : Fn := ⟨1, 7, false, b_law_closed⟩
def b_law_lead : List St := [
    .for_ (.nm 1) .rng [.bi .len [.var 0]] [.ite (.op .ne (.ix (.ix (.var 0) (.var 1)) (.lit (.int 0))) (.lit (.int 0))) [.ret (.var 1)] []],
    .ret (.neg (.lit (.int 1)))]
def d_law_lead : Fn := ⟨1, 2, false, b_law_lead⟩
def b_law_less_so : List St := [
    .ret (.comp (.call i_law_sub [.var 3, .call i_law_mul [.var 2, .var 4]]) (.tp [(.nm 3), (.nm 4)]) .zip [.var 0, .var 1] [])]
def d_law_less_so : Fn := ⟨3, 5, true, b_law_less_so⟩
def b_law_grown : List St := [
    .for_ (.nm 2) .seq [.var 0] [.asg 1 (.call i_law_less_so [.var 1, .var 2, .ix (.var 1) (.call i_law_lead [.var 2])])], .asg 3 (.call i_law_lead [.var 1]),
    .ite (.op .lt (.var 3) (.lit (.int 0))) [.ret (.var 0)] [], .unp (.tp [(.nm 4), (.nm 5)]) (.ix (.var 1) (.var 3)),
    .asg 6 (.comp (.call i_law_low [.op .mul (.ix (.var 7) (.lit (.int 0))) (.var 5), .op .mul (.ix (.var 7) (.lit (.int 1))) (.var 4)]) (.nm 7) .seq [.var 1] []),
    .ret (.op .add (.comp (.call i_law_less_so [.var 2, .var 6, .ix (.var 2) (.var 3)]) (.nm 2) .seq [.var 0] []) (.lst [.var 6]))]
def d_law_grown : Fn := ⟨2, 8, false, b_law_grown⟩
def b_law_solved : List St := [
    .par [(false, 2), (false, 3)] [.lst [], .bi .len [.ix (.var 0) (.lit (.int 0))]], .for_ (.tp [(.nm 4), (.nm 5)]) .zip [.var 0,
    .var 1] [.asg 2 (.call i_law_grown [.var 2, .op .add (.bi .list [.var 4]) (.lst [.var 5])])], .own 6 (.op .mul (.lst [.tup [.lit (.int 0),
    .lit (.int 1)]]) (.var 3)), .for_ (.nm 7) .seq [.var 2] [.ite (.op .eq (.call i_law_lead [.var 7]) (.var 3)) [.ret (.lit (.non))] [],
    .setx 6 (.call i_law_lead [.var 7]) (.ix (.var 7) (.var 3))], .frz [6], .ret (.var 6)]
def d_law_solved : Fn := ⟨2, 8, false, b_law_solved⟩
def b_law_reach : List St := [
    .asg 2 (.lst [.var 1]), .for_ (.nm 3) .rng [.lit (.int 3)] [.for_ (.nm 4) .seq [.bi .list [.var 2]] [.asg 5 (.ix (.var 0) (.var 4)),
    .asg 2 (.op .add (.var 2) (.comp (.var 6) (.nm 6) .rng [.bi .len [.var 5]] [.and_ (.op .ne (.ix (.ix (.var 5) (.var 6)) (.lit (.int 0))) (.lit (.int 0))) (.op .notin (.var 6) (.var 2))]))]],
    .ret (.var 2)]
def d_law_reach : Fn := ⟨2, 7, false, b_law_reach⟩
def b_law_least : List St := [
    .asg 2 (.comp (.var 3) (.nm 3) .rng [.bi .len [.var 0]] [.and_ (.op .ne (.var 3) (.var 1)) (.op .isin (.var 1) (.call i_law_reach [.var 0, .var 3]))]),
    .own 4 (.comp (.tup [.bi .int [.op .eq (.var 3) (.var 1)], .lit (.int 1)]) (.nm 3) .rng [.bi .len [.var 0]] []), .ite (.op .eq (.var 2) (.lst [])) [.frz [4],
    .ret (.bi .tuple [.var 4])] [], .par [(true, 5), (false, 6)] [.lst [], .comp (.ix (.ix (.var 0) (.var 3)) (.var 1)) (.nm 3) .seq [.var 2] []],
    .for_ (.nm 3) .seq [.var 2] [.app 5 (.comp (.call i_law_sub [.tup [.bi .int [.op .eq (.var 3) (.var 7)], .lit (.int 1)],
    .ix (.ix (.var 0) (.var 3)) (.var 7)]) (.nm 7) .seq [.var 2] [])], .frz [5], .for_ (.tp [(.nm 3), (.nm 8)]) .zip [.var 2, .call i_law_solved [.var 5,
    .var 6]] [.setx 4 (.var 3) (.var 8)], .frz [4], .ret (.bi .tuple [.var 4])]
def d_law_least : Fn := ⟨2, 9, false, b_law_least⟩
def b_law_is_lid : List St := [
    .ite (.call i_law_less [.ix (.var 2) (.var 1), .tup [.lit (.int 1), .lit (.int 1)]]) [.ret (.lit (.bl false))] [], .for_ (.tp [(.nm 3), (.nm 4)]) .zip [.var 0,
    .var 2] [.ite (.call i_law_less [.var 4, .call i_law_all [.comp (.call i_law_mul [.var 5, .var 6]) (.tp [(.nm 5), (.nm 6)]) .zip [.var 3,
    .var 2] []]]) [.ret (.lit (.bl false))] []], .ret (.lit (.bl true))]
def d_law_is_lid : Fn := ⟨3, 7, false, b_law_is_lid⟩
def b_law_common : List St := [
    .asg 3 (.lst [.tup []]), .for_ (.tp [(.nm 4), (.nm 5)]) .zip [.var 0,
    .var 1] [.asg 3 (.op .add (.comp (.op .add (.var 6) (.tup [.var 4])) (.nm 6) .seq [.var 3] []) (.comp (.op .add (.var 6) (.tup [.var 5])) (.nm 6) .seq [.var 3] []))],
    .asg 7 (.op .mul (.lst [.tup [.lit (.int 0), .lit (.int 1)]]) (.bi .len [.var 0])), .for_ (.nm 6) .seq [.var 3] [.asg 8 (.call i_law_least [.var 6, .var 2]),
    .asg 7 (.comp (.ite (.call i_law_less [.var 4, .var 5]) (.var 5) (.var 4)) (.tp [(.nm 4), (.nm 5)]) .zip [.var 7, .var 8] [])], .ret (.bi .tuple [.var 7])]
def d_law_common : Fn := ⟨3, 9, false, b_law_common⟩
def b_law_weights : List St := [
    .asg 2 (.tup []), .for_ (.nm 3) .seq [.var 1] [.asg 4 (.lst [.var 3, .var 3, .call i_law_add [.var 3, .tup [.lit (.int 1), .lit (.int 3)]],
    .call i_law_mul [.var 3, .tup [.lit (.int 99), .lit (.int 100)]], .tup [.lit (.int 1), .lit (.int 1)], .tup [.lit (.int 0), .lit (.int 1)]]),
    .asg 2 (.op .add (.var 2) (.tup [.call i_law_some [.var 0, .var 4]]))], .ret (.var 2)]
def d_law_weights : Fn := ⟨2, 5, false, b_law_weights⟩
def b_law_can_go_in : List St := [
    .ret (.op .eq (.comp (.var 1) (.nm 1) .seq [.var 0] [.op .gt (.bi .max2 [.ix (.var 1) (.lit (.int 0)),
    .ix (.var 1) (.lit (.int 1))]) (.op .pow (.lit (.int 10)) (.lit (.int 38)))]) (.lst []))]
def d_law_can_go_in : Fn := ⟨1, 2, false, b_law_can_go_in⟩
def b_law_kept : List St := [
    .for_ (.nm 5) .rng [.lit (.int 30)] [.asg 3 (.call i_law_led [.var 3, .call i_law_some [.var 1, .var 0]]), .ite (.call i_law_less [.var 4,
    .ix (.var 3) (.var 2)]) [.ret (.lit (.bl false))] []], .ret (.lit (.bl true))]
def d_law_kept : Fn := ⟨5, 6, false, b_law_kept⟩
def b_law_word_k05 : List St := [
    .own 4 (.lst []), .try_ [.ex (.call i_most_by [.var 0, .var 2, .var 3, .var 3])] [(5, none, [.app 4 (.lit (.str [119, 101, 105, 103, 104, 116, 115]))])],
    .try_ [.ex (.call i_common_lid [.var 0, .var 1, .var 2])] [(11, none, [.app 4 (.lit (.str [117, 110, 108, 105, 107, 101]))])], .frz [4], .ret (.var 4)]
def d_law_word_k05 : Fn := ⟨4, 5, false, b_law_word_k05⟩
def b_law_k05 : List St := [
    .for_ (.nm 1) .rng [.bi .max2 [.lit (.int 3), .bi .min2 [.lit (.int 9), .op .add (.bi .len [.var 0]) (.lit (.int 2))]]] [.cel 2 (.call i_law_sieve [.var 0,
    .var 1]), .asg 3 (.ite (.op .eq (.call i_law_sift [.var 2, .lit (.int 3)]) (.lit (.int 0))) (.call i_law_closed [.var 2]) (.call i_law_way [.var 2,
    .call i_law_vessels [.var 2, .lit (.int 1)]])), .par [(false, 4), (false, 5)] [.call i_law_way [.var 2, .ix (.var 3) (.lit (.int 0))],
    .call i_law_dirt [.var 2, .bi .len [.ix (.var 3) (.lit (.int 0))]]], .par [(false, 6), (false, 7)] [.call i_law_rows [.var 3], .call i_law_rows [.var 4]],
    .for_ (.nm 8) .rng [.bi .len [.var 6]] [.par [(false, 9), (false, 10)] [.call i_law_least [.var 6, .var 8], .call i_law_common [.var 6, .var 7, .var 8]],
    .ite (.or_ (.op .ne (.call i_least_lid [.var 3, .var 8]) (.var 9)) (.op .ne (.call i_common_lid [.var 3, .var 4,
    .var 8]) (.var 10))) [.ret (.lit (.bl false))] [], .ite (.or_ (.not (.call i_law_is_lid [.var 6, .var 8, .var 10])) (.not (.call i_law_is_lid [.var 7, .var 8,
    .var 10]))) [.ret (.lit (.bl false))] [], .for_ (.nm 11) .rng [.lit (.int 4)] [.asg 12 (.call i_law_weights [.var 2, .var 9]),
    .asg 13 (.call i_law_is_lid [.var 6, .var 8, .var 12]), .ite (.and_ (.call i_law_can_go_in [.var 12]) (.op .ne (.call i_is_lid [.var 3, .var 8,
    .var 12]) (.var 13))) [.ret (.lit (.bl false))] []], .asg 14 (.call i_law_all [.comp (.call i_law_mul [.var 15, .var 16]) (.tp [(.nm 15),
    (.nm 16)]) .zip [.var 5, .var 10] []]), .ite (.not (.call i_law_kept [.lst [.var 6, .var 7], .var 2, .var 8, .var 5, .var 14])) [.ret (.lit (.bl false))] [],
    .asg 17 (.call i_law_all [.comp (.call i_law_mul [.var 15, .var 16]) (.tp [(.nm 15), (.nm 16)]) .zip [.var 5, .var 9] []]),
    .ite (.and_ (.call i_law_can_go_in [.var 9]) (.op .ne (.call i_most_by [.var 3, .var 8, .var 9, .var 5]) (.var 17))) [.ret (.lit (.bl false))] []],
    .asg 18 (.call i_law_way [.var 2, .op .add (.tup [.tup [.lit (.int 7), .lit (.int 2),
    .lit (.int 2)]]) (.sl .lo (.ix (.var 3) (.lit (.int 0))) [.lit (.int 1)])]),
    .asg 19 (.ite (.op .eq (.ix (.var 18) (.lit (.int 0))) (.ix (.var 3) (.lit (.int 0)))) (.lst [.lit (.str [119, 101, 105, 103, 104, 116,
    115])]) (.lst [.lit (.str [119, 101, 105, 103, 104, 116, 115]), .lit (.str [117, 110, 108, 105, 107, 101])])), .ite (.op .ne (.call i_law_word_k05 [.var 3,
    .var 18, .lit (.int 0), .op .mul (.tup [.tup [.lit (.int 0), .lit (.int 1)]]) (.bi .len [.var 6])]) (.var 19)) [.ret (.lit (.bl false))] []],
    .ret (.lit (.bl true))]
def d_law_k05 : Fn := ⟨1, 20, false, b_law_k05⟩
def glo : List (List Nat × D) := [([90, 69, 82, 79], .tup [(.int 0), (.int 1)]),
    ([85, 78, 73, 84], .tup [(.int 1), (.int 1)]),
    ([70, 73, 76, 76], .str [102, 105, 108, 108]),
    ([80, 79, 85, 82], .str [112, 111, 117, 114]),
    ([84, 73, 80], .str [116, 105, 112]),
    ([77, 79, 83, 84, 95, 80, 65, 82, 84], .int 100000000000000000000000000000000000000)]
def cls : List (Nat × PySem.Str) := [(1, "InvalidWay"), (2, "InvalidDirt"), (4, "InvalidVessel"), (5, "InvalidWeights"), (11, "Unlike")]
def rows : List Rw := [⟨0, "common", ["one", "other"], ["one", "other"], d_common, 10⟩,
    ⟨1, "lowest", ["top", "below"], ["top", "below", "part"], d_lowest, 11⟩,
    ⟨40, "plus", ["one", "other"], ["one", "other"], d_plus, 12⟩,
    ⟨41, "minus", ["one", "other"], ["one", "other"], d_minus, 13⟩,
    ⟨42, "times", ["one", "other"], ["one", "other"], d_times, 14⟩,
    ⟨72, "over", ["one", "other"], ["one", "other"], d_over, 15⟩,
    ⟨92, "is_less", ["one", "other"], ["one", "other"], d_is_less, 16⟩,
    ⟨43, "sum_of", ["some"], ["some", "found", "part"], d_sum_of, 17⟩,
    ⟨44, "dot", ["one", "other"], ["one", "other", "mine", "yours"], d_dot, 18⟩,
    ⟨46, "idle_table", ["many"], ["many", "other", "one"], d_idle_table, 19⟩,
    ⟨73, "lead_of", ["row"], ["row", "place", "part"], d_lead_of, 20⟩,
    ⟨74, "less_of", ["row", "other", "part"], ["row", "other", "part", "mine", "yours"], d_less_of, 21⟩,
    ⟨75, "with_row", ["basis", "row"], ["basis", "row", "other", "lead", "unit", "part"], d_with_row, 22⟩,
    ⟨76, "solved", ["rows", "goals"], ["rows", "goals", "basis", "many", "row", "goal", "found", "line", "lead"], d_solved, 23⟩,
    ⟨2, "is_integer", ["value"], ["value"], d_is_integer, 29⟩,
    ⟨3, "is_from", ["value", "low", "high"], ["value", "low", "high"], d_is_from, 30⟩,
    ⟨4, "is_any_fraction", ["value"], ["value"], d_is_any_fraction, 31⟩,
    ⟨5, "is_amount", ["value"], ["value"], d_is_amount, 32⟩,
    ⟨6, "is_vessel", ["value"], ["value"], d_is_vessel, 33⟩,
    ⟨7, "is_step", ["many", "value"], ["many", "value"], d_is_step, 34⟩,
    ⟨8, "with_part", ["some", "place", "part"], ["some", "place", "part"], d_with_part, 35⟩,
    ⟨9, "moved_by", ["vessels", "waters", "step"], ["vessels", "waters", "step", "room", "film", "begin", "here"], d_moved_by, 36⟩,
    ⟨10, "waters_behind", ["vessels", "waters", "step"], ["vessels", "waters", "step", "many", "found"], d_waters_behind, 37⟩,
    ⟨51, "dirt_behind", ["vessels", "waters", "some", "step"], ["vessels", "waters", "some", "step", "gone", "found"], d_dirt_behind, 38⟩,
    ⟨11, "begins", ["vessels"], ["vessels", "vessel"], d_begins, 39⟩,
    ⟨12, "all_waters", ["way"], ["way", "vessels", "steps", "found", "step"], d_all_waters, 40⟩,
    ⟨13, "is_good", ["value"], ["value", "vessel", "step"], d_is_good, 41⟩,
    ⟨14, "is_dirt_for", ["many", "value"], ["many", "value", "part"], d_is_dirt_for, 42⟩,
    ⟨15, "need_way", ["value"], ["value"], d_need_way, 43⟩,
    ⟨52, "need_dirt", ["many", "value"], ["many", "value"], d_need_dirt, 44⟩,
    ⟨103, "need_vessel", ["many", "value"], ["many", "value"], d_need_vessel, 45⟩,
    ⟨54, "round_of", ["way", "some"], ["way", "some", "vessels", "steps", "waters", "step", "gone"], d_round_of, 47⟩,
    ⟨55, "table_of", ["way"], ["way", "row"], d_table_of, 48⟩,
    ⟨77, "places_from", ["rows", "place"], ["rows", "place", "found", "line", "here", "there", "part", "one"], d_places_from, 50⟩,
    ⟨104, "is_lid_of", ["rows", "place", "some"], ["rows", "place", "some", "row", "weight"], d_is_lid_of, 52⟩,
    ⟨105, "chosen", ["one", "other"], ["one", "other", "found", "mine", "yours", "rows"], d_chosen, 53⟩,
    ⟨106, "greater", ["one", "other"], ["one", "other", "mine", "yours"], d_greater, 54⟩,
    ⟨107, "least_for", ["rows", "place"], ["rows", "place", "some", "one", "found", "lines", "goals", "other", "part"], d_least_for, 55⟩,
    ⟨108, "need_weights", ["many", "value"], ["many", "value"], d_need_weights, 56⟩,
    ⟨109, "is_lid", ["way", "vessel", "weights"], ["way", "vessel", "weights"], d_is_lid, 57⟩,
    ⟨110, "least_lid", ["way", "vessel"], ["way", "vessel"], d_least_lid, 58⟩,
    ⟨111, "most_by", ["way", "vessel", "weights", "dirt"], ["way", "vessel", "weights", "dirt"], d_most_by, 59⟩,
    ⟨112, "common_lid", ["one", "other", "vessel"], ["one", "other", "vessel", "found", "rows"], d_common_lid, 60⟩,
    ⟨20, "_law_sieve", ["script", "k"], ["script", "k", "cell"], d_law_sieve, 62⟩,
    ⟨21, "_law_sift", ["sieve", "wide"], ["sieve", "wide", "found", "stirred"], d_law_sift, 63⟩,
    ⟨22, "_law_some", ["sieve", "things"], ["sieve", "things"], d_law_some, 64⟩,
    ⟨23, "_law_low", ["top", "below"], ["top", "below", "here", "rest"], d_law_low, 65⟩,
    ⟨59, "_law_add", ["mine", "yours"], ["mine", "yours"], d_law_add, 66⟩,
    ⟨60, "_law_sub", ["mine", "yours"], ["mine", "yours"], d_law_sub, 67⟩,
    ⟨61, "_law_mul", ["mine", "yours"], ["mine", "yours"], d_law_mul, 68⟩,
    ⟨97, "_law_less", ["mine", "yours"], ["mine", "yours"], d_law_less, 69⟩,
    ⟨62, "_law_all", ["parts"], ["parts", "found", "part"], d_law_all, 70⟩,
    ⟨24, "_law_vessels", ["sieve", "least"], ["sieve", "least", "found", "turn", "room", "thin", "more"], d_law_vessels, 71⟩,
    ⟨25, "_law_step", ["sieve", "wide"], ["sieve", "wide", "at", "kind", "size", "there"], d_law_step, 72⟩,
    ⟨26, "_law_flow", ["vessels", "waters", "step"], ["vessels", "waters", "step", "at", "found", "size", "there"], d_law_flow, 73⟩,
    ⟨27, "_law_start", ["vessels"], ["vessels", "one"], d_law_start, 74⟩,
    ⟨28, "_law_way", ["sieve", "vessels"], ["sieve", "vessels", "steps", "waters", "turn", "step", "at", "last", "lack"], d_law_way, 75⟩,
    ⟨29, "_law_dirt", ["sieve", "wide"], ["sieve", "wide", "found", "turn", "top"], d_law_dirt, 76⟩,
    ⟨63, "_law_done", ["way_so", "parts", "times_so"], ["way_so", "parts", "times_so", "vessels", "steps", "waters", "gone", "step", "size", "later", "moved_so", "found"], d_law_done, 77⟩,
    ⟨64, "_law_rows", ["way_so"], ["way_so", "wide", "found", "at", "unit", "here"], d_law_rows, 78⟩,
    ⟨65, "_law_led", ["parts", "rows"], ["parts", "rows", "found", "at", "some", "part", "row"], d_law_led, 79⟩,
    ⟨67, "_law_closed", ["sieve"], ["sieve", "first", "second", "kind", "size", "vessels", "steps"], d_law_closed, 80⟩,
    ⟨86, "_law_lead", ["row"], ["row", "at"], d_law_lead, 81⟩,
    ⟨87, "_law_less_so", ["row", "line", "part"], ["row", "line", "part", "mine", "yours"], d_law_less_so, 82⟩,
    ⟨88, "_law_grown", ["basis", "row"], ["basis", "row", "line", "at", "top", "below", "unit", "part"], d_law_grown, 83⟩,
    ⟨113, "_law_solved", ["rows", "goals"], ["rows", "goals", "basis", "wide", "row", "goal", "found", "line"], d_law_solved, 84⟩,
    ⟨114, "_law_reach", ["rows", "at"], ["rows", "at", "found", "turn", "here", "row", "there"], d_law_reach, 85⟩,
    ⟨115, "_law_least", ["rows", "at"], ["rows", "at", "hoped", "here", "found", "lines", "goals", "there", "part"], d_law_least, 86⟩,
    ⟨116, "_law_is_lid", ["rows", "at", "weights_so"], ["rows", "at", "weights_so", "row", "weight", "part", "more"], d_law_is_lid, 87⟩,
    ⟨117, "_law_common", ["rows", "others", "at"], ["rows", "others", "at", "choices", "mine", "yours", "some", "found", "told_so"], d_law_common, 88⟩,
    ⟨118, "_law_weights", ["sieve", "least"], ["sieve", "least", "found", "part", "near"], d_law_weights, 89⟩,
    ⟨119, "_law_can_go_in", ["parts"], ["parts", "part"], d_law_can_go_in, 90⟩,
    ⟨120, "_law_kept", ["tables", "sieve", "at", "parts", "most_so"], ["tables", "sieve", "at", "parts", "most_so", "turn"], d_law_kept, 91⟩,
    ⟨121, "_law_word", ["way_so", "other", "at", "weights_so"], ["way_so", "other", "at", "weights_so", "found"], d_law_word_k05, 92⟩,
    ⟨122, "law", ["script"], ["script", "k", "sieve", "way_so", "other", "parts", "rows", "others", "at", "least", "both", "turn", "weights_so", "good", "most_so", "part", "more", "told_so", "wrong", "due"], d_law_k05, 93⟩]
end Rz
namespace Rz
open PySem PySem.Spec PyProof.Rows L2

abbrev prog : Program := PySem.Challenge.pw_anyrinses_k05_whole_lids_of_vessels
abbrev R0 : PySem.W.OpenRow := PySem.W.OpenLaw.row PySem.Challenge.rw_anyrinses_k05_whole_lids_of_vessels
def fnL : List He.DefD := rows.map (mkD prog)
def faL : List He.Fa := faOf rows cls
abbrev hk : PySem.W.Hook := hookR 4 faL fnL (exOf glo)
def ob (s : PySem.W.SharedT) : He.AlD := obsRG 4 faL fnL (exOf glo) (HandSHeadRun.getT s)
theorem ob_eq (s : PySem.W.SharedT) : ob s = hk.obs s.abs := obsRG_eq (HandSHeadRun.getT_eq s)
def loose : List Str := (["RinseError", "InvalidWay", "InvalidDirt", "InvalidVessel", "InvalidWeights", "Unlike", "ZERO", "UNIT", "common", "lowest", "plus", "minus", "times", "over", "is_less", "sum_of", "dot", "idle_table", "lead_of", "less_of", "with_row", "solved", "FILL", "POUR", "TIP", "MOST_PART", "is_integer", "is_from", "is_any_fraction", "is_amount"] : List Str) ++ (["is_vessel", "is_step", "with_part", "moved_by", "waters_behind", "dirt_behind", "begins", "all_waters", "is_good", "is_dirt_for", "need_way", "need_dirt", "need_vessel", "round_of", "table_of", "places_from", "is_lid_of", "chosen", "greater", "least_for", "need_weights", "is_lid", "least_lid", "most_by", "common_lid", "_law_sieve", "_law_sift", "_law_some", "_law_low", "_law_add"] : List Str) ++ (["_law_sub", "_law_mul", "_law_less", "_law_all", "_law_vessels", "_law_step", "_law_flow", "_law_start", "_law_way", "_law_dirt", "_law_done", "_law_rows", "_law_led", "_law_closed", "_law_lead", "_law_less_so", "_law_grown", "_law_solved", "_law_reach", "_law_least", "_law_is_lid", "_law_common", "_law_weights", "_law_can_go_in", "_law_kept", "_law_word"] : List Str)
theorem run (w : World) : HandSHeadRun.RunEq R0 (PySem.W.view R0.prog [93]) hk ob 4000 loose w := by
  intro os
  kernel_rfl

end Rz
/-! RzS1 -/
set_option Elab.async false
set_option linter.all false
set_option maxRecDepth 100000
set_option maxHeartbeats 4000000
namespace Rz
open PySem PySem.Spec PyProof.Rows L2

abbrev Bad := Addr → Prop
/-- what the row gives: the written part, where the defs stand -/
structure Inf where
  P : Program
  w : World
  K : PySem.W.Frag
  mg : Str → Option Value
  base : Heap
  T : Nat → Option Fn
  nam : Nat → Str
  fad : Nat → Addr
  fd : Nat → FuncData
  ps : Nat → List Str
  glo : List (List Nat × D)
  cad : Nat → Addr
  cls : List (Nat × Str)

/-- a list that nobody changes: locked, or of the written part -/
def Ro (K : PySem.W.Frag) (H : Hp) (a : Addr) (xs : List V) : Prop :=
  (∃ o, H a = some (.frz o (.lst xs))) ∨
    ∃ (o : Obj) (its : Array Value) (n : Nat), K.lookup a = some o ∧ o.cls = .type "list" ∧ o.dict = none ∧ o.data = .seq its n ∧ its.size ≤ sizeLine ∧ Vals xs its.toList
theorem Ro.seq {K : PySem.W.Frag} {H : Hp} {a : Addr} {xs : List V} (h : Ro K H a xs) : SqL K H a xs := h.elim (fun z => .inl (.inr z)) .inr
def keyD : Key → D
  | .inl i => .int i
  | .inr x => .str x.cps.toList

mutual
/-- the value v is the data d; no mutable thing at a bad address is within -/
inductive Rep (S : Inf) (H : Hp) (B : Bad) (Γ : List Addr) : V → D → Prop
  | non : Rep S H B Γ .non .non
  | bl (b : Bool) : Rep S H B Γ (.bl b) (.bl b)
  | int (i : Int) : Rep S H B Γ (.int i) (.int i)
  | str (l : List Nat) : Rep S H B Γ (.str (sOf l)) (.str l)
  | tup {a : Addr} {vs : List V} {ds : List D} : SqT S.K H a vs → Reps S H B Γ vs ds → Rep S H B Γ (.ref a) (.tup ds)
  | lst {a : Addr} {vs : List V} {ds : List D} : H a = some (.lst vs) → ¬ B a → Reps S H B Γ vs ds → Rep S H B Γ (.ref a) (.lst ds)
  | dic {a : Addr} {kvs : List (Key × V)} {ks vs : List D} : H a = some (.dK kvs) → ¬ B a → kvs.map (fun p => keyD p.1) = ks → Reps S H B Γ (kvs.map (·.2)) vs → Rep S H B Γ (.ref a) (.dic ks vs)
  | fn (f : Nat) : Rep S H B Γ (.ref (S.fad f)) (.fn f)
  | mref {n : Nat} {a : Addr} : Γ[n]? = some a → Rep S H B Γ (.ref a) (.mref n)
  | scr {a : Addr} {vs : List V} {ds : List D} : Ro S.K H a vs → Reps S H B Γ vs ds → Rep S H B Γ (.ref a) (.scr ds)
inductive Reps (S : Inf) (H : Hp) (B : Bad) (Γ : List Addr) : List V → List D → Prop
  | nil : Reps S H B Γ [] []
  | cons {v : V} {vs : List V} {d : D} {ds : List D} : Rep S H B Γ v d → Reps S H B Γ vs ds → Reps S H B Γ (v :: vs) (d :: ds)
end

/-- what is bad is a list or a dict of ours -/
structure BadOk (H : Hp) (B : Bad) (Γ : List Addr) : Prop where
  kin : ∀ a, B a → (∃ xs, H a = some (.lst xs)) ∨ ∃ kvs, H a = some (.dK kvs)
  cell : ∀ a, a ∈ Γ → B a
theorem BadOk.live {H : Hp} {B : Bad} {Γ : List Addr} (h : BadOk H B Γ) {a : Addr} (b : B a) : H a ≠ none := by
  rcases h.kin a b with ⟨_, e⟩ | ⟨_, e⟩ <;> (rw [e]; exact fun z => nomatch z)
theorem BadOk.notT {H : Hp} {B : Bad} {Γ : List Addr} (h : BadOk H B Γ) {a : Addr} {vs : List V} (e : H a = some (.tup vs)) : ¬ B a := fun b => by
  rcases h.kin a b with ⟨_, q⟩ | ⟨_, q⟩ <;> (rw [e] at q; cases q)
theorem BadOk.notF {H : Hp} {B : Bad} {Γ : List Addr} (h : BadOk H B Γ) {a : Addr} {o : Obj} {u : HO} (e : H a = some (.frz o u)) : ¬ B a := fun b => by
  rcases h.kin a b with ⟨_, q⟩ | ⟨_, q⟩ <;> (rw [e] at q; cases q)

/-- on from H: all but the cells stands, what is bad stays so, new things may be bad or cells -/
structure Step (H : Hp) (B : Bad) (Γ : List Addr) (H' : Hp) (B' : Bad) (Γ' : List Addr) : Prop where
  ext : ∀ b o, H b = some o → b ∉ Γ → H' b = some o
  bsub : ∀ b, B b → B' b
  bnew : ∀ b, B' b → B b ∨ H b = none
  gpre : ∀ (n : Nat) (a : Addr), Γ[n]? = some a → Γ'[n]? = some a
  gnew : ∀ b, b ∈ Γ' → b ∈ Γ ∨ H b = none
  live : ∀ b, H b ≠ none → H' b ≠ none
theorem Step.refl {H : Hp} {B : Bad} {Γ : List Addr} : Step H B Γ H B Γ := ⟨fun _ _ e _ => e, fun _ b => b, fun _ b => .inl b, fun _ _ e => e, fun _ b => .inl b, fun _ h => h⟩
theorem Step.back {H : Hp} {B : Bad} {Γ : List Addr} {H' : Hp} {B' : Bad} {Γ' : List Addr} (s : Step H B Γ H' B' Γ') {b : Addr} (h : H' b = none) : H b = none := by
  cases e : H b with
  | none => rfl
  | some o => exact absurd h (s.live b (by rw [e]; exact fun z => nomatch z))
theorem Step.trans {H H1 H2 : Hp} {B B1 B2 : Bad} {Γ Γ1 Γ2 : List Addr} (a : Step H B Γ H1 B1 Γ1) (b : Step H1 B1 Γ1 H2 B2 Γ2) : Step H B Γ H2 B2 Γ2 where
  ext := fun c o e n => b.ext c o (a.ext c o e n) fun z => by
    rcases a.gnew c z with z | z
    · exact n z
    · rw [e] at z; cases z
  bsub := fun c h => b.bsub c (a.bsub c h)
  bnew := fun c h => by
    rcases b.bnew c h with z | z
    · exact a.bnew c z
    · exact .inr (a.back z)
  gpre := fun n c e => b.gpre n c (a.gpre n c e)
  gnew := fun c h => by
    rcases b.gnew c h with z | z
    · exact a.gnew c z
    · exact .inr (a.back z)
  live := fun c h => b.live c (a.live c h)
/-- a new thing is laid -/
theorem Step.laid {H : Hp} {B : Bad} {Γ : List Addr} {p : Addr} {o : HO} (h : H p = none) : Step H B Γ (upd H p o) B Γ where
  ext := fun b u e _ => by rw [upd_ne (ne_of_none e h)]; exact e
  bsub := fun _ b => b
  bnew := fun _ b => .inl b
  gpre := fun _ _ e => e
  gnew := fun _ b => .inl b
  live := fun b n => by
    by_cases e : b = p
    · subst e; rw [upd_same]; exact fun z => nomatch z
    · rw [upd_ne e]; exact n
theorem BadOk.laid {H : Hp} {B : Bad} {Γ : List Addr} {p : Addr} {o : HO} (h : BadOk H B Γ) (hp : H p = none) : BadOk (upd H p o) B Γ where
  kin := fun a b => by
    have e : a ≠ p := fun z => h.live b (by rw [z]; exact hp)
    rw [upd_ne e]; exact h.kin a b
  cell := h.cell

section
variable {S : Inf} {H H' : Hp} {B B' : Bad} {Γ Γ' : List Addr}
theorem seqT_step {a : Addr} {vs : List V} (ok : BadOk H B Γ) (ext : ∀ b o, H b = some o → b ∉ Γ → H' b = some o) (h : SqT S.K H a vs) : SqT S.K H' a vs := by
  rcases h with (h | ⟨o, h⟩) | h
  · exact .inl (.inl (ext _ _ h fun z => ok.notT h (ok.cell _ z)))
  · exact .inl (.inr ⟨o, ext _ _ h fun z => ok.notF h (ok.cell _ z)⟩)
  · exact .inr h
theorem rd_step {a : Addr} {u : HO} (ok : BadOk H B Γ) (ext : ∀ b o, H b = some o → b ∉ Γ → H' b = some o) (nb : ¬ B a) (h : Rd H a u) : Rd H' a u := by
  rcases h with h | ⟨o, h⟩
  · exact .inl (ext _ _ h fun z => nb (ok.cell _ z))
  · exact .inr ⟨o, ext _ _ h fun z => nb (ok.cell _ z)⟩
theorem rd_live {a : Addr} {u : HO} (h : Rd H a u) : H a ≠ none := by
  rcases h with h | ⟨o, h⟩ <;> (rw [h]; exact fun z => nomatch z)
mutual
theorem Rep.step (ok : BadOk H B Γ) (s : Step H B Γ H' B' Γ') : ∀ {v : V} {d : D}, Rep S H B Γ v d → Rep S H' B' Γ' v d
  | _, _, .non => .non
  | _, _, .bl b => .bl b
  | _, _, .int i => .int i
  | _, _, .str l => .str l
  | _, _, .tup h r => .tup (seqT_step ok s.ext h) (Reps.step ok s r)
  | _, _, .lst h nb r => .lst (s.ext _ _ h fun z => nb (ok.cell _ z)) (fun z => (s.bnew _ z).elim nb (by rw [h]; exact fun z => nomatch z)) (Reps.step ok s r)
  | _, _, .scr h r => .scr (h.elim (fun ⟨o, h⟩ => .inl ⟨o, s.ext _ _ h fun z => ok.notF h (ok.cell _ z)⟩) .inr) (Reps.step ok s r)
  | _, _, .dic h nb e r => .dic (s.ext _ _ h fun z => nb (ok.cell _ z)) (fun z => (s.bnew _ z).elim nb (by rw [h]; exact fun z => nomatch z)) e (Reps.step ok s r)
  | _, _, .fn f => .fn f
  | _, _, .mref h => .mref (s.gpre _ _ h)
theorem Reps.step (ok : BadOk H B Γ) (s : Step H B Γ H' B' Γ') : ∀ {vs : List V} {ds : List D}, Reps S H B Γ vs ds → Reps S H' B' Γ' vs ds
  | _, _, .nil => .nil
  | _, _, .cons h r => .cons (Rep.step ok s h) (Reps.step ok s r)
end
mutual
/-- a mutable thing at a bad address is rewritten: what does not go through it stands -/
theorem Rep.rew (ok : BadOk H B Γ) (ext : ∀ b o, H b = some o → ¬ B b → H' b = some o) : ∀ {v : V} {d : D}, Rep S H B Γ v d → Rep S H' B Γ v d
  | _, _, .non => .non
  | _, _, .bl b => .bl b
  | _, _, .int i => .int i
  | _, _, .str l => .str l
  | _, _, .tup h r => .tup (by
      rcases h with (h | ⟨o, h⟩) | h
      · exact .inl (.inl (ext _ _ h (ok.notT h)))
      · exact .inl (.inr ⟨o, ext _ _ h (ok.notF h)⟩)
      · exact .inr h) (Reps.rew ok ext r)
  | _, _, .lst h nb r => .lst (ext _ _ h nb) nb (Reps.rew ok ext r)
  | _, _, .scr h r => .scr (h.elim (fun ⟨o, h⟩ => .inl ⟨o, ext _ _ h (ok.notF h)⟩) .inr) (Reps.rew ok ext r)
  | _, _, .dic h nb e r => .dic (ext _ _ h nb) nb e (Reps.rew ok ext r)
  | _, _, .fn f => .fn f
  | _, _, .mref h => .mref h
theorem Reps.rew (ok : BadOk H B Γ) (ext : ∀ b o, H b = some o → ¬ B b → H' b = some o) : ∀ {vs : List V} {ds : List D}, Reps S H B Γ vs ds → Reps S H' B Γ vs ds
  | _, _, .nil => .nil
  | _, _, .cons h r => .cons (Rep.rew ok ext h) (Reps.rew ok ext r)
end
mutual
/-- less is bad -/
theorem Rep.less (hb : ∀ a, B' a → B a) : ∀ {v : V} {d : D}, Rep S H B Γ v d → Rep S H B' Γ v d
  | _, _, .non => .non
  | _, _, .bl b => .bl b
  | _, _, .int i => .int i
  | _, _, .str l => .str l
  | _, _, .tup h r => .tup h (Reps.less hb r)
  | _, _, .lst h nb r => .lst h (fun z => nb (hb _ z)) (Reps.less hb r)
  | _, _, .scr h r => .scr h (Reps.less hb r)
  | _, _, .dic h nb e r => .dic h (fun z => nb (hb _ z)) e (Reps.less hb r)
  | _, _, .fn f => .fn f
  | _, _, .mref h => .mref h
theorem Reps.less (hb : ∀ a, B' a → B a) : ∀ {vs : List V} {ds : List D}, Reps S H B Γ vs ds → Reps S H B' Γ vs ds
  | _, _, .nil => .nil
  | _, _, .cons h r => .cons (Rep.less hb h) (Reps.less hb r)
end
mutual
/-- an address that does not stand is in nothing: it may become bad -/
theorem Rep.more {p : Addr} (hp : H p = none) : ∀ {v : V} {d : D}, Rep S H B Γ v d → Rep S H (fun b => B b ∨ b = p) Γ v d
  | _, _, .non => .non
  | _, _, .bl b => .bl b
  | _, _, .int i => .int i
  | _, _, .str l => .str l
  | _, _, .tup h r => .tup h (Reps.more hp r)
  | _, _, .lst h nb r => .lst h (fun z => z.elim nb fun e => by rw [e, hp] at h; cases h) (Reps.more hp r)
  | _, _, .scr h r => .scr h (Reps.more hp r)
  | _, _, .dic h nb e r => .dic h (fun z => z.elim nb fun q => by rw [q, hp] at h; cases h) e (Reps.more hp r)
  | _, _, .fn f => .fn f
  | _, _, .mref h => .mref h
theorem Reps.more {p : Addr} (hp : H p = none) : ∀ {vs : List V} {ds : List D}, Reps S H B Γ vs ds → Reps S H (fun b => B b ∨ b = p) Γ vs ds
  | _, _, .nil => .nil
  | _, _, .cons h r => .cons (Rep.more hp h) (Reps.more hp r)
end
mutual
/-- without a list in it, no bad address is in it -/
theorem Rep.noL (hb : True) : ∀ {v : V} {d : D}, Rep S H B Γ v d → D.noL d = true → Rep S H B' Γ v d
  | _, _, .non, _ => .non
  | _, _, .bl b, _ => .bl b
  | _, _, .int i, _ => .int i
  | _, _, .str l, _ => .str l
  | _, _, .tup h r, e => .tup h (Reps.noL hb r (by simpa [D.noL] using e))
  | _, _, .lst _ _ _, e => by simp [D.noL] at e
  | _, _, .scr _ _, e => by simp [D.noL] at e
  | _, _, .dic _ _ _ _, e => by simp [D.noL] at e
  | _, _, .fn f, _ => .fn f
  | _, _, .mref h, _ => .mref h
theorem Reps.noL (hb : True) : ∀ {vs : List V} {ds : List D}, Reps S H B Γ vs ds → D.noLs ds = true → Reps S H B' Γ vs ds
  | _, _, .nil, _ => .nil
  | _, _, .cons h r, e => by
    have e' := e
    rw [D.noLs, Bool.and_eq_true] at e'
    exact .cons (Rep.noL hb h e'.1) (Reps.noL hb r e'.2)
end
mutual
/-- a new thing is laid at p: p is in nothing that stood -/
theorem Rep.more' {p : Addr} {o : HO} (hp : H p = none) : ∀ {v : V} {d : D}, Rep S H B Γ v d → Rep S (upd H p o) (fun b => B b ∨ b = p) Γ v d
  | _, _, .non => .non
  | _, _, .bl b => .bl b
  | _, _, .int i => .int i
  | _, _, .str l => .str l
  | _, _, .tup h r => .tup (by
      rcases h with (h | ⟨o, h⟩) | h
      · exact .inl (.inl (by rw [upd_ne (ne_of_none h hp)]; exact h))
      · exact .inl (.inr ⟨o, by rw [upd_ne (ne_of_none h hp)]; exact h⟩)
      · exact .inr h) (Reps.more' hp r)
  | _, _, .lst h nb r => .lst (by rw [upd_ne (ne_of_none h hp)]; exact h) (fun z => z.elim nb fun e => by rw [e, hp] at h; cases h) (Reps.more' hp r)
  | _, _, .scr h r => .scr (h.elim (fun ⟨o, h⟩ => .inl ⟨o, by rw [upd_ne (ne_of_none h hp)]; exact h⟩) .inr) (Reps.more' hp r)
  | _, _, .dic h nb e r => .dic (by rw [upd_ne (ne_of_none h hp)]; exact h) (fun z => z.elim nb fun q => by rw [q, hp] at h; cases h) e (Reps.more' hp r)
  | _, _, .fn f => .fn f
  | _, _, .mref h => .mref h
theorem Reps.more' {p : Addr} {o : HO} (hp : H p = none) : ∀ {vs : List V} {ds : List D}, Reps S H B Γ vs ds → Reps S (upd H p o) (fun b => B b ∨ b = p) Γ vs ds
  | _, _, .nil => .nil
  | _, _, .cons h r => .cons (Rep.more' hp h) (Reps.more' hp r)
end
theorem Reps.length : ∀ {vs : List V} {ds : List D}, Reps S H B Γ vs ds → vs.length = ds.length
  | _, _, .nil => rfl
  | _, _, .cons _ r => by rw [List.length_cons, List.length_cons, r.length]
theorem Reps.get : ∀ {vs : List V} {ds : List D} {i : Nat} {d : D}, Reps S H B Γ vs ds → ds[i]? = some d → ∃ v, vs[i]? = some v ∧ Rep S H B Γ v d
  | _, _, _, _, .nil, e => by simp at e
  | _, _, 0, _, .cons h _, e => by simp at e; subst e; exact ⟨_, rfl, h⟩
  | _, _, i + 1, _, .cons _ r, e => by
    obtain ⟨v, h1, h2⟩ := Reps.get (i := i) r (by simpa using e)
    exact ⟨v, by simpa using h1, h2⟩
theorem Reps.getV : ∀ {vs : List V} {ds : List D} {i : Nat} {v : V}, Reps S H B Γ vs ds → vs[i]? = some v → ∃ d, ds[i]? = some d ∧ Rep S H B Γ v d
  | _, _, _, _, .nil, e => by simp at e
  | _, _, 0, _, .cons h _, e => by simp at e; subst e; exact ⟨_, rfl, h⟩
  | _, _, i + 1, _, .cons _ r, e => by
    obtain ⟨v, h1, h2⟩ := Reps.getV (i := i) r (by simpa using e)
    exact ⟨v, by simpa using h1, h2⟩
theorem Reps.append : ∀ {vs ws : List V} {ds es : List D}, Reps S H B Γ vs ds → Reps S H B Γ ws es → Reps S H B Γ (vs ++ ws) (ds ++ es)
  | _, _, _, _, .nil, r => r
  | _, _, _, _, .cons h t, r => .cons h (Reps.append t r)
theorem Reps.take : ∀ {vs : List V} {ds : List D} (n : Nat), Reps S H B Γ vs ds → Reps S H B Γ (vs.take n) (ds.take n)
  | _, _, 0, _ => by simp; exact .nil
  | _, _, _ + 1, .nil => by simp; exact .nil
  | _, _, n + 1, .cons h r => by simp; exact .cons h (Reps.take n r)
theorem Reps.drop : ∀ {vs : List V} {ds : List D} (n : Nat), Reps S H B Γ vs ds → Reps S H B Γ (vs.drop n) (ds.drop n)
  | _, _, 0, r => r
  | _, _, _ + 1, .nil => by simp; exact .nil
  | _, _, n + 1, .cons _ r => by simp; exact Reps.drop n r
theorem Reps.set : ∀ {vs : List V} {ds : List D} {v : V} {d : D} (n : Nat), Rep S H B Γ v d → Reps S H B Γ vs ds → Reps S H B Γ (vs.set n v) (ds.set n d)
  | _, _, _, _, _, _, .nil => .nil
  | _, _, _, _, 0, q, .cons _ r => .cons q r
  | _, _, _, _, n + 1, q, .cons h r => .cons h (Reps.set n q r)
theorem Reps.rep {vs : List V} {ds : List D} (r : Reps S H B Γ vs ds) : ∀ k : Nat, Reps S H B Γ (List.replicate k vs).flatten (List.replicate k ds).flatten
  | 0 => by simp; exact .nil
  | k + 1 => by rw [List.replicate_succ, List.replicate_succ, List.flatten_cons, List.flatten_cons]; exact r.append (r.rep k)
theorem Reps.reverse : ∀ {vs : List V} {ds : List D}, Reps S H B Γ vs ds → Reps S H B Γ vs.reverse ds.reverse
  | _, _, .nil => .nil
  | _, _, .cons h r => by rw [List.reverse_cons, List.reverse_cons]; exact r.reverse.append (.cons h .nil)
end
end Rz

/-! RzS2 -/
set_option Elab.async false
set_option linter.all false
set_option maxRecDepth 100000
set_option maxHeartbeats 4000000
namespace Rz
open PySem PySem.Spec PyProof.Rows L2

/-! ### cells, slots -/
structure Cells (S : Inf) (H : Hp) (g : Gs) (B : Bad) (Γ : List Addr) : Prop where
  ok : BadOk H B Γ
  len : Γ.length = g.length
  nd : Γ.Nodup
  nl : ∀ (n : Nat) (ds : List D), g[n]? = some ds → D.noLs ds = true
  at_ : ∀ (n : Nat) (ds : List D), g[n]? = some ds → ∃ a vs, Γ[n]? = some a ∧ H a = some (.lst vs) ∧ Reps S H B Γ vs ds
def OwnAt (S : Inf) (H : Hp) (B : Bad) (Γ : List Addr) (a : Addr) : D → Prop
  | .lst ds => ∃ vs, H a = some (.lst vs) ∧ Reps S H B Γ vs ds
  | .dic ks ws => ∃ kvs : List (Key × V), H a = some (.dK kvs) ∧ kvs.map (fun p => keyD p.1) = ks ∧ Reps S H B Γ (kvs.map (·.2)) ws
  | _ => False
def SlotOk (S : Inf) (H : Hp) (B : Bad) (Γ : List Addr) (H0 : Hp) (v : Option (Option V)) : Sl → Prop
  | .u => True
  | .p d => ∃ x, v = some (some x) ∧ Rep S H B Γ x d
  | .o d => ∃ a, v = some (some (.ref a)) ∧ B a ∧ a ∉ Γ ∧ H0 a = none ∧ OwnAt S H B Γ a d
def isO : Sl → Prop
  | .o _ => True
  | _ => False
structure Slots (S : Inf) (H : Hp) (B : Bad) (Γ : List Addr) (H0 : Hp) (σ : L2.St) (env : Env) : Prop where
  len : σ.length = env.length
  at_ : ∀ i, SlotOk S H B Γ H0 (σ[i]?) (getS env i)
  apart : ∀ i j a, i ≠ j → isO (getS env i) → isO (getS env j) → σ[i]? = some (some (.ref a)) → σ[j]? = some (some (.ref a)) → False

section
variable {S : Inf} {H H' H0 : Hp} {B B' : Bad} {Γ Γ' : List Addr} {g g' : Gs} {σ : L2.St} {env : Env}
theorem OwnAt.live {a : Addr} {d : D} (h : OwnAt S H B Γ a d) : H a ≠ none := by
  cases d with
  | lst ds => obtain ⟨_, e, _⟩ := h; rw [e]; exact fun z => nomatch z
  | dic ks ws => obtain ⟨_, e, _⟩ := h; rw [e]; exact fun z => nomatch z
  | _ => exact h.elim
theorem OwnAt.step (ok : BadOk H B Γ) (s : Step H B Γ H' B' Γ') {a : Addr} {d : D} (na : a ∉ Γ) (h : OwnAt S H B Γ a d) : OwnAt S H' B' Γ' a d := by
  cases d with
  | lst ds => obtain ⟨vs, e, r⟩ := h; exact ⟨vs, s.ext _ _ e na, r.step ok s⟩
  | dic ks ws => obtain ⟨kvs, e, q, r⟩ := h; exact ⟨kvs, s.ext _ _ e na, q, r.step ok s⟩
  | _ => exact h.elim
theorem SlotOk.step (ok : BadOk H B Γ) (s : Step H B Γ H' B' Γ') {v : Option (Option V)} {sl : Sl} (h : SlotOk S H B Γ H0 v sl) : SlotOk S H' B' Γ' H0 v sl := by
  cases sl with
  | u => trivial
  | p d => obtain ⟨x, e, r⟩ := h; exact ⟨x, e, r.step ok s⟩
  | o d =>
    obtain ⟨a, e, b, n, z, r⟩ := h
    refine ⟨a, e, s.bsub _ b, fun q => ?_, z, r.step ok s n⟩
    rcases s.gnew a q with q | q
    · exact n q
    · exact r.live q
theorem Slots.step (ok : BadOk H B Γ) (s : Step H B Γ H' B' Γ') (h : Slots S H B Γ H0 σ env) : Slots S H' B' Γ' H0 σ env :=
  ⟨h.len, fun i => (h.at_ i).step ok s, h.apart⟩
theorem Same.step (s : L2.Same H H') : Step H B Γ H' B Γ := ⟨fun b o e _ => s b o e, fun _ b => b, fun _ b => .inl b, fun _ _ e => e, fun _ b => .inl b, fun b n z => n (s.free z)⟩
theorem BadOk.same (h : BadOk H B Γ) (s : L2.Same H H') : BadOk H' B Γ :=
  ⟨fun a b => (h.kin a b).elim (fun ⟨x, e⟩ => .inl ⟨x, s _ _ e⟩) fun ⟨x, e⟩ => .inr ⟨x, s _ _ e⟩, h.cell⟩
theorem Cells.same (h : Cells S H g B Γ) (s : L2.Same H H') : Cells S H' g B Γ :=
  ⟨h.ok.same s, h.len, h.nd, h.nl, fun n ds e => let ⟨a, vs, e1, e2, r⟩ := h.at_ n ds e; ⟨a, vs, e1, s _ _ e2, r.step h.ok (Same.step s)⟩⟩
theorem same_laid {p : Addr} {o : HO} (h : H p = none) : L2.Same H (upd H p o) := fun b x e => by
  rw [upd_ne (ne_of_none e h)]
  exact e
end

/-! ### what comes out -/
/-- an exception of ours: its class, what it bears -/
def ExR (S : Inf) (H : Hp) (B : Bad) (Γ : List Addr) (c : Nat) (p : D) (cls : Value) (dd : Option Addr) : Prop :=
  cls = .ref (S.cad c) ∧ (S.cls.lookup c).isSome = true ∧ match p with
  | .non => dd = none
  | p => ∃ a v, dd = some a ∧ H a = some (.xd [("line", v)]) ∧ Rep S H B Γ v p
def Out {α : Type} (S : Inf) (σ : L2.St) (W : WX) (H : Hp) (B : Bad) (Γ : List Addr) (r : R α) (Q : α → Gs → Hp → Bad → List Addr → Prop) : Prop :=
  match r with
  | .ok a g' => ∀ H' B' Γ', Cells S H' g' B' Γ' → Step H B Γ H' B' Γ' → Q a g' H' B' Γ'
  | .exc c p g' => ∀ H' B' Γ' cls dd, Cells S H' g' B' Γ' → Step H B Γ H' B' Γ' → ExR S H' B' Γ' c p cls dd → W cls dd σ H'
  | .no => False
section
variable {S : Inf} {H H1 H' H0 : Hp} {B B1 B' : Bad} {Γ Γ1 Γ' : List Addr} {g g' : Gs} {σ : L2.St} {env : Env} {W : WX} {α β : Type}
theorem Out.imp {r : R α} {Q Q' : α → Gs → Hp → Bad → List Addr → Prop} (h : Out S σ W H B Γ r Q) (hq : ∀ a g' H' B' Γ', Cells S H' g' B' Γ' → Step H B Γ H' B' Γ' → Q a g' H' B' Γ' → Q' a g' H' B' Γ') : Out S σ W H B Γ r Q' := by
  cases r with
  | ok a g' => exact fun H' B' Γ' c s => hq _ _ _ _ _ c s (h H' B' Γ' c s)
  | exc c p g' => exact h
  | no => exact h
theorem Out.bind {r : R α} {f : α → Gs → R β} {Q : β → Gs → Hp → Bad → List Addr → Prop} (h : Out S σ W H B Γ (r.bind f) Q) :
    Out S σ W H B Γ r fun a g1 H1 B1 Γ1 => Out S σ W H1 B1 Γ1 (f a g1) Q := by
  cases r with
  | ok a g1 =>
    have h : Out S σ W H B Γ (f a g1) Q := h
    show ∀ H1 B1 Γ1, Cells S H1 g1 B1 Γ1 → Step H B Γ H1 B1 Γ1 → Out S σ W H1 B1 Γ1 (f a g1) Q
    intro H1 B1 Γ1 c s
    cases e : f a g1 with
    | ok b g2 => rw [e] at h; exact fun H2 B2 Γ2 c2 s2 => h H2 B2 Γ2 c2 (s.trans s2)
    | exc x p g2 => rw [e] at h; exact fun H2 B2 Γ2 cls dd c2 s2 => h H2 B2 Γ2 cls dd c2 (s.trans s2)
    | no => rw [e] at h; exact h
  | exc c p g' => exact h
  | no => exact h
theorem Out.of {o : Option α} {Q : α → Gs → Hp → Bad → List Addr → Prop} (h : Out S σ W H B Γ (R.of o g) Q) : ∃ a, o = some a ∧ ∀ H' B' Γ', Cells S H' g B' Γ' → Step H B Γ H' B' Γ' → Q a g H' B' Γ' := by
  cases o with
  | some a => exact ⟨a, rfl, h⟩
  | none => exact h.elim
end

/-! ### freshness -/
def isF (T : Nat → Option Fn) : Ex → Bool
  | .lst _ => true
  | .dic _ _ => true
  | .comp _ _ _ _ _ => true
  | .bi .list _ => true
  | .bi .lrange _ => true
  | .bi .lzip _ => true
  | .bi .dzip _ => true
  | .bi .sorted _ => true
  | .bi .split _ => true
  | .meth .split _ _ => true
  | .op .add _ _ => true
  | .op .mul _ _ => true
  | .sl _ _ _ => true
  | .ite _ a b => isF T a && isF T b
  | .call f _ => match T f with
    | some F => F.fr
    | none => false
  | _ => false
/-- a list or a dict that was not there at H -/
def FreshAt (S : Inf) (H H' : Hp) (B' : Bad) (Γ' : List Addr) (v : V) : D → Prop
  | .lst ds => ∃ p vs, v = .ref p ∧ H p = none ∧ ¬ B' p ∧ H' p = some (.lst vs) ∧ Reps S H' (fun b => B' b ∨ b = p) Γ' vs ds
  | .dic ks ws => ∃ (p : Addr) (kvs : List (Key × V)), v = .ref p ∧ H p = none ∧ ¬ B' p ∧ H' p = some (.dK kvs) ∧ kvs.map (fun p => keyD p.1) = ks ∧ Reps S H' (fun b => B' b ∨ b = p) Γ' (kvs.map (·.2)) ws
  | _ => True

/-! ### readings over data -/
section
variable (S : Inf) (H0 : Hp) (W : WX) (C : Nat → List D → Gs → R D)
def tD (e : Ex) : TE := fun σ H Q => ∃ env g B Γ, Slots S H B Γ H0 σ env ∧ Cells S H g B Γ ∧
  Out S σ W H B Γ (evE C e env g) fun d g' H' B' Γ' => ∀ v, Rep S H' B' Γ' v d → (isF S.T e = true → FreshAt S H H' B' Γ' v d) → Q v H'
def tDs (es : List Ex) : TA := fun σ H Q => ∃ env g B Γ, Slots S H B Γ H0 σ env ∧ Cells S H g B Γ ∧
  Out S σ W H B Γ (evEs C es env g) fun ds g' H' B' Γ' => ∀ vs, Reps S H' B' Γ' vs ds → Q vs H'
def tDT (e : Ex) : TT := fun σ H Q => ∃ env g B Γ, Slots S H B Γ H0 σ env ∧ Cells S H g B Γ ∧
  Out S σ W H B Γ (evE C e env g) fun d g' H' B' Γ' => ∃ b, d = .bl b ∧ Q b H'
end
theorem _root_.L2.PE.imp {X : Cx} {pe : Expr} {t t' : TE} (h : PE X pe t) (hi : ∀ σ H Q, t' σ H Q → t σ H Q) : PE X pe t' := ⟨fun pins s σ H Q I q => h.run pins s σ H Q I (hi _ _ _ q)⟩
theorem _root_.L2.PT.imp {X : Cx} {pe : Expr} {t t' : TT} (h : PT X pe t) (hi : ∀ σ H Q, t' σ H Q → t σ H Q) : PT X pe t' := ⟨fun pins s σ H Q I q => h.run pins s σ H Q I (hi _ _ _ q)⟩
theorem _root_.L2.PW.imp {X : Cx} {pe : Expr} {t t' : TT} (h : PW X pe t) (hi : ∀ σ H Q, t' σ H Q → t σ H Q) : PW X pe t' := ⟨fun wh pins s σ H Q I q => h.run wh pins s σ H Q I (hi _ _ _ q)⟩
theorem _root_.L2.PA.imp {X : Cx} {pe : List Expr} {t t' : TA} (h : PA X pe t) (hi : ∀ σ H Q, t' σ H Q → t σ H Q) : PA X pe t' := ⟨fun p pins s σ H Q I q => h.run p pins s σ H Q I (hi _ _ _ q)⟩
theorem _root_.L2.PS.imp {X : Cx} {pe : Stmt} {t t' : TS} (h : PS X pe t) (hi : ∀ D σ H, t' D σ H → t D σ H) : PS X pe t' := ⟨fun pins s σ H D I q => h.run pins s σ H D I (hi _ _ _ q)⟩
theorem _root_.L2.PSs.imp {X : Cx} {pe : List Stmt} {t t' : TS} (h : PSs X pe t) (hi : ∀ D σ H, t' D σ H → t D σ H) : PSs X pe t' := ⟨fun pins s σ H D I q => h.run pins s σ H D I (hi _ _ _ q)⟩

/-- a rule by values: what it asks follows from the data -/
def RO (S : Inf) (r : R2) (f : D → D → Option D) : Prop := ∀ H B Γ v1 v2 d1 d2 d Q, BadOk H B Γ → Rep S H B Γ v1 d1 → Rep S H B Γ v2 d2 → f d1 d2 = some d →
  (∀ v H', L2.Same H H' → Rep S H' B Γ v d → FreshAt S H H' B Γ v d → Q v H') → r v1 v2 H Q

section
variable {S : Inf} {H0 : Hp} {W : WX} {C : Nat → List D → Gs → R D} {X : Cx}
/-- one part, then what follows -/
theorem tD_bind {e : Ex} {σ : L2.St} {H : Hp} {env : Env} {g : Gs} {B : Bad} {Γ : List Addr} {β : Type} {f : D → Gs → R β} {Q : β → Gs → Hp → Bad → List Addr → Prop} {K : VK}
    (sl : Slots S H B Γ H0 σ env) (ce : Cells S H g B Γ) (h : Out S σ W H B Γ ((evE C e env g).bind f) Q)
    (k : ∀ d g1 H1 B1 Γ1 v, Slots S H1 B1 Γ1 H0 σ env → Cells S H1 g1 B1 Γ1 → Step H B Γ H1 B1 Γ1 → Rep S H1 B1 Γ1 v d → (isF S.T e = true → FreshAt S H H1 B1 Γ1 v d) → Out S σ W H1 B1 Γ1 (f d g1) Q → K v H1) :
    tD S H0 W C e σ H K :=
  ⟨env, g, B, Γ, sl, ce, h.bind.imp fun d g1 H1 B1 Γ1 c s o v r fr => k d g1 H1 B1 Γ1 v (sl.step ce.ok s) c s r fr o⟩
theorem tDs_bind {es : List Ex} {σ : L2.St} {H : Hp} {env : Env} {g : Gs} {B : Bad} {Γ : List Addr} {β : Type} {f : List D → Gs → R β} {Q : β → Gs → Hp → Bad → List Addr → Prop} {K : List V → Hp → Prop}
    (sl : Slots S H B Γ H0 σ env) (ce : Cells S H g B Γ) (h : Out S σ W H B Γ ((evEs C es env g).bind f) Q)
    (k : ∀ ds g1 H1 B1 Γ1 vs, Slots S H1 B1 Γ1 H0 σ env → Cells S H1 g1 B1 Γ1 → Step H B Γ H1 B1 Γ1 → Reps S H1 B1 Γ1 vs ds → Out S σ W H1 B1 Γ1 (f ds g1) Q → K vs H1) :
    tDs S H0 W C es σ H K :=
  ⟨env, g, B, Γ, sl, ce, h.bind.imp fun d g1 H1 B1 Γ1 c s o v r => k d g1 H1 B1 Γ1 v (sl.step ce.ok s) c s r o⟩
theorem tDT_bind {e : Ex} {σ : L2.St} {H : Hp} {env : Env} {g : Gs} {B : Bad} {Γ : List Addr} {β : Type} {f : D → Gs → R β} {Q : β → Gs → Hp → Bad → List Addr → Prop} {K : Bool → Hp → Prop}
    (sl : Slots S H B Γ H0 σ env) (ce : Cells S H g B Γ) (h : Out S σ W H B Γ ((evE C e env g).bind f) Q) (hn : ∀ d g H B Γ, (∀ b, d ≠ .bl b) → Out S σ W H B Γ (f d g) Q → False)
    (k : ∀ b g1 H1 B1 Γ1, Slots S H1 B1 Γ1 H0 σ env → Cells S H1 g1 B1 Γ1 → Step H B Γ H1 B1 Γ1 → Out S σ W H1 B1 Γ1 (f (.bl b) g1) Q → K b H1) :
    tDT S H0 W C e σ H K :=
  ⟨env, g, B, Γ, sl, ce, h.bind.imp fun d g1 H1 B1 Γ1 c s o => by
    by_cases hd : ∃ b, d = .bl b
    · obtain ⟨b, rfl⟩ := hd
      exact ⟨b, rfl, k b g1 H1 B1 Γ1 (sl.step ce.ok s) c s o⟩
    · exact (hn d g1 H1 B1 Γ1 (fun b e => hd ⟨b, e⟩) o).elim⟩
/-- the end: a value -/
theorem Out.fin {σ : L2.St} {H H' : Hp} {g : Gs} {B : Bad} {Γ : List Addr} {d : D} {v : V} {Q : VK} {F : D → Hp → Bad → List Addr → V → Prop} (ce : Cells S H g B Γ)
    (h : ∀ H' B' Γ', Cells S H' g B' Γ' → Step H B Γ H' B' Γ' → ∀ v, Rep S H' B' Γ' v d → F d H' B' Γ' v → Q v H') (s : L2.Same H H') (r : Rep S H' B Γ v d) (f : F d H' B Γ v) : Q v H' :=
  h H' B Γ (ce.same s) (Same.step s) v r f

theorem eok_op {o : Op} {pop : Operator} {r : R2} {ea eb : Ex} {a b : Expr} {pos : Pos} (ho : OpR X (binaryOp pop) r) (hr : RO S r (op2 o)) (ha : PE X a (tD S H0 W C ea)) (hb : PE X b (tD S H0 W C eb)) :
    PE X (.BinOp a pop b pos) (tD S H0 W C (.op o ea eb)) := by
  refine (pe_op ho ha hb).imp fun σ H Q ⟨env, g, B, Γ, sl, ce, h⟩ => ?_
  refine tD_bind sl ce h fun d1 g1 H1 B1 Γ1 v1 sl1 ce1 s1 r1 _ h1 => ?_
  refine tD_bind sl1 ce1 h1 fun d2 g2 H2 B2 Γ2 v2 sl2 ce2 s2 r2 _ h2 => ?_
  obtain ⟨d, e, h3⟩ := h2.of
  refine hr H2 B2 Γ2 v1 v2 d1 d2 d Q ce2.ok (r1.step ce1.ok s2) r2 e fun v H3 s3 r3 fr => ?_
  refine h3 H3 B2 Γ2 (ce2.same s3) (Same.step s3) v r3 fun hf => ?_
  have hs : Step H B Γ H2 B2 Γ2 := s1.trans s2
  cases d with
  | lst ds =>
    obtain ⟨p, vs, e1, e2, e3⟩ := fr
    exact ⟨p, vs, e1, hs.back e2, e3⟩
  | dic ks ws =>
    obtain ⟨p, vs, e1, e2, e3⟩ := fr
    exact ⟨p, vs, e1, hs.back e2, e3⟩
  | _ => trivial
theorem eok_cmp {o : Op} {pop : CmpOp} {r : R2} {ea eb : Ex} {a b : Expr} {pos : Pos} (ho : OpR X (compareOp pop) r) (hr : RO S r (op2 o)) (ha : PE X a (tD S H0 W C ea)) (hb : PE X b (tD S H0 W C eb))
    (hm : behindInMarks pop b = false) (hf : isF S.T (.op o ea eb) = false) : PE X (.Compare a [pop] [b] pos) (tD S H0 W C (.op o ea eb)) := by
  refine (pe_cmpR ho ha hb hm).imp fun σ H Q ⟨env, g, B, Γ, sl, ce, h⟩ => ?_
  refine tD_bind sl ce h fun d1 g1 H1 B1 Γ1 v1 sl1 ce1 s1 r1 _ h1 => ?_
  refine tD_bind sl1 ce1 h1 fun d2 g2 H2 B2 Γ2 v2 sl2 ce2 s2 r2 _ h2 => ?_
  obtain ⟨d, e, h3⟩ := h2.of
  exact hr H2 B2 Γ2 v1 v2 d1 d2 d Q ce2.ok (r1.step ce1.ok s2) r2 e fun v H3 s3 r3 fr => h3 H3 B2 Γ2 (ce2.same s3) (Same.step s3) v r3 fun hf' => by rw [hf] at hf'; cases hf'
/-- a bool's value -/
theorem Rep.blv {S : Inf} {H : Hp} {B : Bad} {Γ : List Addr} {v : V} {b : Bool} (h : Rep S H B Γ v (.bl b)) : v = .bl b := by cases h; rfl
theorem tok_cmp {o : Op} {pop : CmpOp} {r : R2} {ea eb : Ex} {a b : Expr} {pos : Pos} (ho : OpR X (compareOp pop) r) (hr : RO S r (op2 o)) (ha : PE X a (tD S H0 W C ea)) (hb : PE X b (tD S H0 W C eb))
    (hm : behindInMarks pop b = false) : PT X (.Compare a [pop] [b] pos) (tDT S H0 W C (.op o ea eb)) := by
  refine (pt_cmpR ho ha hb hm).imp fun σ H Q ⟨env, g, B, Γ, sl, ce, h⟩ => ?_
  refine tD_bind sl ce h fun d1 g1 H1 B1 Γ1 v1 sl1 ce1 s1 r1 _ h1 => ?_
  refine tD_bind sl1 ce1 h1 fun d2 g2 H2 B2 Γ2 v2 sl2 ce2 s2 r2 _ h2 => ?_
  obtain ⟨d, e, h3⟩ := h2.of
  refine hr H2 B2 Γ2 v1 v2 d1 d2 d _ ce2.ok (r1.step ce1.ok s2) r2 e fun v H3 s3 r3 fr => ?_
  obtain ⟨b, rfl, q⟩ := h3 H3 B2 Γ2 (ce2.same s3) (Same.step s3)
  exact ⟨b, r3.blv, q⟩
/-- a test by its value -/
theorem tok_val {e : Ex} {pe : Expr} (h : PE X pe (tD S H0 W C e)) (he : ∀ whole, isTrue pe X.env whole = (do let v ← whole; standAt pe.pos; holding [v] (truthy v))) : PT X pe (tDT S H0 W C e) := by
  refine (pt_val h he).imp fun σ H Q ⟨env, g, B, Γ, sl, ce, h⟩ => ?_
  refine ⟨env, g, B, Γ, sl, ce, h.imp fun d g' H' B' Γ' c s ⟨b, ed, q⟩ v r _ => ?_⟩
  subst ed
  exact ⟨b, r.blv, q⟩
theorem eok_neg {ea : Ex} {a : Expr} {pos : Pos} (ha : PE X a (tD S H0 W C ea)) : PE X (.UnaryOp .USub a pos) (tD S H0 W C (.neg ea)) := by
  refine (pe_un un_neg ha).imp fun σ H Q ⟨env, g, B, Γ, sl, ce, h⟩ => ?_
  refine tD_bind sl ce h fun d1 g1 H1 B1 Γ1 v1 sl1 ce1 s1 r1 _ h1 => ?_
  cases d1 with
  | int i =>
    cases r1
    exact ⟨i, rfl, h1 H1 B1 Γ1 ce1 .refl _ (.int _) fun z => nomatch z⟩
  | _ => exact h1.elim
theorem eok_not {ea : Ex} {a : Expr} {pos : Pos} (ha : PE X a (tD S H0 W C ea)) : PE X (.UnaryOp .Not a pos) (tD S H0 W C (.not ea)) := by
  refine (pe_not ha).imp fun σ H Q ⟨env, g, B, Γ, sl, ce, h⟩ => ?_
  refine tD_bind sl ce h fun d1 g1 H1 B1 Γ1 v1 sl1 ce1 s1 r1 _ h1 => ?_
  cases d1 with
  | bl i =>
    cases r1
    exact ⟨i, rfl, h1 H1 B1 Γ1 ce1 .refl _ (.bl _) fun z => nomatch z⟩
  | _ => exact h1.elim
theorem tok_not {ea : Ex} {a : Expr} {pos : Pos} (ha : PT X a (tDT S H0 W C ea)) : PT X (.UnaryOp .Not a pos) (tDT S H0 W C (.not ea)) := by
  refine (pt_not ha).imp fun σ H Q ⟨env, g, B, Γ, sl, ce, h⟩ => ?_
  refine tDT_bind sl ce h (fun d g H B Γ hn z => ?_) fun b g1 H1 B1 Γ1 sl1 ce1 s1 h1 => ?_
  · cases d with
    | bl b => exact hn b rfl
    | _ => exact z.elim
  · obtain ⟨b', e, q⟩ := h1 H1 B1 Γ1 ce1 .refl
    injection e with e
    subst e
    exact q
theorem eok_and {ea eb : Ex} {a b : Expr} {rest : List Expr} {pos : Pos} (ha : PE X a (tD S H0 W C ea)) (hb : PE X (.BoolOp .And (b :: rest) pos) (tD S H0 W C eb)) :
    PE X (.BoolOp .And (a :: b :: rest) pos) (tD S H0 W C (.and_ ea eb)) := by
  refine (pe_and ha hb).imp fun σ H Q ⟨env, g, B, Γ, sl, ce, h⟩ => ?_
  refine tD_bind sl ce h fun d1 g1 H1 B1 Γ1 v1 sl1 ce1 s1 r1 _ h1 => ?_
  cases d1 with
  | bl i =>
    cases r1
    refine ⟨i, rfl, ?_⟩
    cases i with
    | true =>
      rw [if_pos rfl]
      exact ⟨env, g1, B1, Γ1, sl1, ce1, h1.imp fun d g' H' B' Γ' c s q v r fr => q v r fun z => nomatch z⟩
    | false =>
      rw [if_neg Bool.false_ne_true]
      exact h1 H1 B1 Γ1 ce1 .refl _ (.bl _) fun z => nomatch z
  | _ => exact h1.elim
theorem eok_or {ea eb : Ex} {a b : Expr} {rest : List Expr} {pos : Pos} (ha : PE X a (tD S H0 W C ea)) (hb : PE X (.BoolOp .Or (b :: rest) pos) (tD S H0 W C eb)) :
    PE X (.BoolOp .Or (a :: b :: rest) pos) (tD S H0 W C (.or_ ea eb)) := by
  refine (pe_or ha hb).imp fun σ H Q ⟨env, g, B, Γ, sl, ce, h⟩ => ?_
  refine tD_bind sl ce h fun d1 g1 H1 B1 Γ1 v1 sl1 ce1 s1 r1 _ h1 => ?_
  cases d1 with
  | bl i =>
    cases r1
    refine ⟨i, rfl, ?_⟩
    cases i with
    | true =>
      rw [if_pos rfl]
      exact h1 H1 B1 Γ1 ce1 .refl _ (.bl _) fun z => nomatch z
    | false =>
      rw [if_neg Bool.false_ne_true]
      exact ⟨env, g1, B1, Γ1, sl1, ce1, h1.imp fun d g' H' B' Γ' c s q v r fr => q v r fun z => nomatch z⟩
  | _ => exact h1.elim
theorem tok_and {ea eb : Ex} {a b : Expr} {rest : List Expr} {pos : Pos} (ha : PT X a (tDT S H0 W C ea)) (hb : PW X (.BoolOp .And (b :: rest) pos) (tDT S H0 W C eb)) :
    PW X (.BoolOp .And (a :: b :: rest) pos) (tDT S H0 W C (.and_ ea eb)) := by
  refine (pw_and ha hb).imp fun σ H Q ⟨env, g, B, Γ, sl, ce, h⟩ => ?_
  refine tDT_bind sl ce h (fun d g H B Γ hn z => ?_) fun b g1 H1 B1 Γ1 sl1 ce1 s1 h1 => ?_
  · cases d with
    | bl b => exact hn b rfl
    | _ => exact z.elim
  · cases b with
    | true =>
      rw [if_pos rfl]
      exact ⟨env, g1, B1, Γ1, sl1, ce1, h1⟩
    | false =>
      rw [if_neg Bool.false_ne_true]
      obtain ⟨b', e, q⟩ := h1 H1 B1 Γ1 ce1 .refl
      injection e with e
      subst e
      exact q
theorem tok_or {ea eb : Ex} {a b : Expr} {rest : List Expr} {pos : Pos} (ha : PT X a (tDT S H0 W C ea)) (hb : PW X (.BoolOp .Or (b :: rest) pos) (tDT S H0 W C eb)) :
    PW X (.BoolOp .Or (a :: b :: rest) pos) (tDT S H0 W C (.or_ ea eb)) := by
  refine (pw_or ha hb).imp fun σ H Q ⟨env, g, B, Γ, sl, ce, h⟩ => ?_
  refine tDT_bind sl ce h (fun d g H B Γ hn z => ?_) fun b g1 H1 B1 Γ1 sl1 ce1 s1 h1 => ?_
  · cases d with
    | bl b => exact hn b rfl
    | _ => exact z.elim
  · cases b with
    | true =>
      rw [if_pos rfl]
      obtain ⟨b', e, q⟩ := h1 H1 B1 Γ1 ce1 .refl
      injection e with e
      subst e
      exact q
    | false =>
      rw [if_neg Bool.false_ne_true]
      exact ⟨env, g1, B1, Γ1, sl1, ce1, h1⟩
theorem eok_ite {ec ea eb : Ex} {c a b : Expr} {pos : Pos} (hc : PT X c (tDT S H0 W C ec)) (ha : PE X a (tD S H0 W C ea)) (hb : PE X b (tD S H0 W C eb)) :
    PE X (.IfExp c a b pos) (tD S H0 W C (.ite ec ea eb)) := by
  refine (pe_ifExp hc ha hb).imp fun σ H Q ⟨env, g, B, Γ, sl, ce, h⟩ => ?_
  refine tDT_bind sl ce h (fun d g H B Γ hn z => ?_) fun b g1 H1 B1 Γ1 sl1 ce1 s1 h1 => ?_
  · cases d with
    | bl b => exact hn b rfl
    | _ => exact z.elim
  · have wk : ∀ {d : D} {H' : Hp} {B' : Bad} {Γ' : List Addr} {v : V}, FreshAt S H1 H' B' Γ' v d → FreshAt S H H' B' Γ' v d := fun {d H' B' Γ' v} fr => by
      cases d with
      | lst ds => obtain ⟨p, vs, e1, e2, e3⟩ := fr; exact ⟨p, vs, e1, s1.back e2, e3⟩
      | dic ks ws => obtain ⟨p, vs, e1, e2, e3⟩ := fr; exact ⟨p, vs, e1, s1.back e2, e3⟩
      | _ => trivial
    cases b with
    | true =>
      rw [if_pos rfl]
      exact ⟨env, g1, B1, Γ1, sl1, ce1, h1.imp fun d g' H' B' Γ' c s q v r fr => q v r fun z => wk (fr (Bool.and_eq_true_iff.mp z).1)⟩
    | false =>
      rw [if_neg Bool.false_ne_true]
      exact ⟨env, g1, B1, Γ1, sl1, ce1, h1.imp fun d g' H' B' Γ' c s q v r fr => q v r fun z => wk (fr (Bool.and_eq_true_iff.mp z).2)⟩
theorem tok_ite {ec ea eb : Ex} {c a b : Expr} {pos : Pos} (hc : PT X c (tDT S H0 W C ec)) (ha : PT X a (tDT S H0 W C ea)) (hb : PT X b (tDT S H0 W C eb)) :
    PT X (.IfExp c a b pos) (tDT S H0 W C (.ite ec ea eb)) := by
  refine ⟨fun pins s σ H Q I ⟨env, g, B, Γ, sl, ce, h⟩ => ?_⟩
  have hh : tDT S H0 W C ec σ H fun b H1 => if b = true then tDT S H0 W C ea σ H1 Q else tDT S H0 W C eb σ H1 Q := by
    refine tDT_bind sl ce h (fun d g H B Γ hn z => ?_) fun b g1 H1 B1 Γ1 sl1 ce1 s1 h1 => ?_
    · cases d with
      | bl b => exact hn b rfl
      | _ => exact z.elim
    · cases b with
      | true => rw [if_pos rfl]; exact ⟨env, g1, B1, Γ1, sl1, ce1, h1⟩
      | false => rw [if_neg Bool.false_ne_true]; exact ⟨env, g1, B1, Γ1, sl1, ce1, h1⟩
  show wpAny _ _ (do if ← isTrue c X.env (eval c X.env) then isTrue a X.env (eval a X.env) else isTrue b X.env (eval b X.env)) _ _ _
  refine wpAny_bind (thn (hc.run pins s σ H _ I hh) fun d s1 ⟨H1, I1, q1⟩ => ?_)
  cases d with
  | true => rw [if_pos rfl] at q1; simp only [if_true]; exact ha.run pins s1 σ H1 Q I1 q1
  | false => rw [if_neg Bool.false_ne_true] at q1; simp only [Bool.false_eq_true, if_false]; exact hb.run pins s1 σ H1 Q I1 q1
/-- argument lists -/
theorem aok_nil : PA X [] (tDs S H0 W C []) := pa_nil.imp fun σ H Q ⟨env, g, B, Γ, sl, ce, h⟩ => h H B Γ ce .refl [] .nil
theorem aok_cons {e : Ex} {es : List Ex} {pe : Expr} {pes : List Expr} (ha : PE X pe (tD S H0 W C e)) (hr : PA X pes (tDs S H0 W C es)) (hs : starEach (pe :: pes) X.env = (false, eval pe X.env) :: starEach pes X.env) :
    PA X (pe :: pes) (tDs S H0 W C (e :: es)) := by
  refine (pa_cons ha hr hs).imp fun σ H Q ⟨env, g, B, Γ, sl, ce, h⟩ => ?_
  refine tD_bind sl ce h fun d1 g1 H1 B1 Γ1 v1 sl1 ce1 s1 r1 _ h1 => ?_
  refine tDs_bind sl1 ce1 h1 fun ds g2 H2 B2 Γ2 vs sl2 ce2 s2 r2 h2 => ?_
  exact h2 H2 B2 Γ2 ce2 .refl _ (.cons (r1.step ce1.ok s2) r2)
theorem evEs_len : ∀ (es : List Ex) (env : Env) (g : Gs) (ds : List D) (g' : Gs), evEs C es env g = .ok ds g' → ds.length = es.length
  | [], env, g, ds, g', h => by
    injection h with h1 h2
    rw [← h1]; rfl
  | e :: es, env, g, ds, g', h => by
    have h : ((evE C e env g).bind fun d g => (evEs C es env g).bind fun ds g => .ok (d :: ds) g) = .ok ds g' := h
    cases e1 : evE C e env g with
    | ok d g1 =>
      rw [e1] at h
      have h : ((evEs C es env g1).bind fun ds g => .ok (d :: ds) g) = .ok ds g' := h
      cases e2 : evEs C es env g1 with
      | ok ds2 g2 =>
        rw [e2] at h
        have h : R.ok (d :: ds2) g2 = .ok ds g' := h
        injection h with h1 h2
        rw [← h1, List.length_cons, List.length_cons, evEs_len es env g1 ds2 g2 e2]
      | exc c p g2 => rw [e2] at h; cases h
      | no => rw [e2] at h; cases h
    | exc c p g1 => rw [e1] at h; cases h
    | no => rw [e1] at h; cases h
/-- argument lists of a told length -/
theorem tDs_bindL {es : List Ex} {σ : L2.St} {H : Hp} {env : Env} {g : Gs} {B : Bad} {Γ : List Addr} {β : Type} {f : List D → Gs → R β} {Q : β → Gs → Hp → Bad → List Addr → Prop} {K : List V → Hp → Prop}
    (sl : Slots S H B Γ H0 σ env) (ce : Cells S H g B Γ) (h : Out S σ W H B Γ ((evEs C es env g).bind f) Q)
    (k : ∀ ds g1 H1 B1 Γ1 vs, ds.length = es.length → Slots S H1 B1 Γ1 H0 σ env → Cells S H1 g1 B1 Γ1 → Step H B Γ H1 B1 Γ1 → Reps S H1 B1 Γ1 vs ds → Out S σ W H1 B1 Γ1 (f ds g1) Q → K vs H1) :
    tDs S H0 W C es σ H K := by
  refine ⟨env, g, B, Γ, sl, ce, ?_⟩
  cases e : evEs C es env g with
  | ok ds g1 =>
    rw [e] at h
    have hl := evEs_len es env g ds g1 e
    have h := Out.bind h
    exact fun H1 B1 Γ1 c s v r => k ds g1 H1 B1 Γ1 v hl (sl.step ce.ok s) c s r (h H1 B1 Γ1 c s)
  | exc c p g1 => rw [e] at h; exact h
  | no => rw [e] at h; exact h
theorem Step.seqF {H H1 H2 : Hp} {B B1 : Bad} {Γ Γ1 : List Addr} {Bx : Bad} {Γx : List Addr} (s1 : Step H B Γ H1 B1 Γ1) {v : V} {d : D} (fr : FreshAt S H1 H2 Bx Γx v d) : FreshAt S H H2 Bx Γx v d := by
  cases d with
  | lst ds => obtain ⟨p, vs, e1, e2, e3⟩ := fr; exact ⟨p, vs, e1, s1.back e2, e3⟩
  | dic ks ws => obtain ⟨p, vs, e1, e2, e3⟩ := fr; exact ⟨p, vs, e1, s1.back e2, e3⟩
  | _ => trivial
theorem not_bad_new {H : Hp} {B : Bad} {Γ : List Addr} {p : Addr} (ok : BadOk H B Γ) (h : H p = none) : ¬ B p := fun b => ok.live b h
/-- a new tuple, a new list -/
theorem new_tup {H : Hp} {B : Bad} {Γ : List Addr} {p : Addr} {vs : List V} {ds : List D} (ok : BadOk H B Γ) (h : H p = none) (r : Reps S H B Γ vs ds) : Rep S (upd H p (.tup vs)) B Γ (.ref p) (.tup ds) :=
  .tup (SqT.of upd_same) (r.step ok (Same.step (same_laid h)))
theorem new_lst {H : Hp} {B : Bad} {Γ : List Addr} {p : Addr} {vs : List V} {ds : List D} (ok : BadOk H B Γ) (h : H p = none) (r : Reps S H B Γ vs ds) :
    Rep S (upd H p (.lst vs)) B Γ (.ref p) (.lst ds) ∧ FreshAt S H (upd H p (.lst vs)) B Γ (.ref p) (.lst ds) :=
  ⟨.lst upd_same (not_bad_new ok h) (r.step ok (Same.step (same_laid h))), p, vs, rfl, h, not_bad_new ok h, upd_same, by
    exact Reps.more' h r⟩
theorem eok_tup {es : List Ex} {pes : List Expr} {k : Nat} {pos : Pos} (h : PA X pes (tDs S H0 W C es)) (hl : es.length ≤ 1000) : PE X (.Tuple pes k pos) (tD S H0 W C (.tup es)) := by
  refine (pe_tup h).imp fun σ H Q ⟨env, g, B, Γ, sl, ce, h⟩ => ?_
  refine tDs_bindL sl ce h fun ds g1 H1 B1 Γ1 vs hlen sl1 ce1 s1 r1 h1 => ?_
  refine ⟨by rw [r1.length, hlen, sizeLine_eq]; omega, fun p hp => ?_⟩
  exact h1 _ B1 Γ1 (ce1.same (same_laid hp)) (Same.step (same_laid hp)) _ (new_tup ce1.ok hp r1) fun z => nomatch z
theorem eok_lst {es : List Ex} {pes : List Expr} {pos : Pos} (h : PA X pes (tDs S H0 W C es)) (hl : es.length ≤ 1000) : PE X (.List pes pos) (tD S H0 W C (.lst es)) := by
  refine (pe_lst h).imp fun σ H Q ⟨env, g, B, Γ, sl, ce, h⟩ => ?_
  refine tDs_bindL sl ce h fun ds g1 H1 B1 Γ1 vs hlen sl1 ce1 s1 r1 h1 => ?_
  refine ⟨by rw [r1.length, hlen, sizeLine_eq]; omega, fun p hp => ?_⟩
  obtain ⟨q1, q2⟩ := new_lst ce1.ok hp r1
  exact h1 _ B1 Γ1 (ce1.same (same_laid hp)) (Same.step (same_laid hp)) _ q1 fun _ => s1.seqF q2
end
end Rz

/-! RzS3 -/
set_option Elab.async false
set_option linter.all false
set_option maxRecDepth 100000
set_option maxHeartbeats 4000000
namespace Rz
open PySem PySem.Spec PyProof.Rows L2

/-! ### texts -/
theorem sOf_app (a b : List Nat) : sOf a ++ sOf b = sOf (a ++ b) := by
  show Str.append (sOf a) (sOf b) = _
  unfold Str.append sOf
  simp
theorem sOf_len (a : List Nat) : (sOf a).length = a.length := by unfold sOf Str.length; simp
theorem sOf_list (a : List Nat) : (sOf a).cps.toList = a := by unfold sOf; simp
theorem sOf_of (x : Str) : sOf x.cps.toList = x := by
  obtain ⟨a⟩ := x
  unfold sOf; simp
theorem sOf_inj {a b : List Nat} (h : sOf a = sOf b) : a = b := by rw [← sOf_list a, ← sOf_list b, h]
theorem lineN_le : lineN ≤ sizeLine := by rw [sizeLine_eq]; decide

/-! ### data of the library -/
mutual
def toPD : D → PyData
  | .non => .none
  | .bl b => .bool b
  | .int i => .int i
  | .str s => .str (sOf s)
  | .tup ds => .tuple (toPDs ds)
  | .lst ds => .list (toPDs ds)
  | _ => .dict []
def toPDs : List D → List PyData
  | [] => []
  | d :: ds => toPD d :: toPDs ds
end
mutual
theorem toPD_depth : ∀ (n : Nat) (d : D), D.shp n d = true → (toPD d).depth ≤ n ∧ (toPD d).canLay0 = true
  | n, .non, _ => by simp [toPD, PyData.depth, PyData.canLay0]
  | n, .bl b, _ => by simp [toPD, PyData.depth, PyData.canLay0]
  | n, .int i, _ => by simp [toPD, PyData.depth, PyData.canLay0]
  | n, .str s, h => by
    have h : (s.all fun c => Nat.blt c 55296) = true := by cases n <;> exact h
    refine ⟨by simp [toPD, PyData.depth], ?_⟩
    simp only [toPD, PyData.canLay0, PyData.strOk, sOf]
    rw [List.all_eq_true] at h
    rw [List.size_toArray, ← List.size_toArray, Array.all_eq_true]
    intro i hi
    have hi' : i < s.length := by simpa using hi
    have q : s[i] < 55296 := Nat.le_of_ble_eq_true (h _ (List.getElem_mem hi'))
    simp only [List.getElem_toArray, decide_eq_true_eq]
    omega
  | 0, .tup ds, h => by simp [D.shp] at h
  | 0, .lst ds, h => by simp [D.shp] at h
  | n + 1, .tup ds, h => by
    have h : D.shps n ds = true := h
    obtain ⟨h1, h2⟩ := toPDs_depth n ds h
    refine ⟨?_, ?_⟩
    · simp only [toPD, PyData.depth]; omega
    · simp only [toPD, PyData.canLay0]; exact h2
  | n + 1, .lst ds, h => by
    have h : D.shps n ds = true := h
    obtain ⟨h1, h2⟩ := toPDs_depth n ds h
    refine ⟨?_, ?_⟩
    · simp only [toPD, PyData.depth]; omega
    · simp only [toPD, PyData.canLay0]; exact h2
  | n, .dic _ _, h => by cases n <;> simp [D.shp] at h
  | n, .fn _, h => by cases n <;> simp [D.shp] at h
  | n, .mref _, h => by cases n <;> simp [D.shp] at h
  | n, .scr _, h => by cases n <;> simp [D.shp] at h
theorem toPDs_depth : ∀ (n : Nat) (ds : List D), D.shps n ds = true → PyData.depthAll (toPDs ds) ≤ n ∧ PyData.canLayAll0 (toPDs ds) = true
  | n, [], _ => by simp [toPDs, PyData.depthAll, PyData.canLayAll0]
  | n, d :: ds, h => by
    have h : (D.shp n d && D.shps n ds) = true := by cases n <;> exact h
    rw [Bool.and_eq_true] at h
    obtain ⟨a1, a2⟩ := toPD_depth n d h.1
    obtain ⟨b1, b2⟩ := toPDs_depth n ds h.2
    refine ⟨?_, ?_⟩
    · simp only [toPDs, PyData.depthAll]; omega
    · simp only [toPDs, PyData.canLayAll0, a2, b2, Bool.and_self]
end
theorem toPD_shaped {d : D} (h : D.shp 60 d = true) : SeqAt.shaped (toPD d) = true := by
  obtain ⟨h1, h2⟩ := toPD_depth 60 d h
  unfold SeqAt.shaped
  rw [h2, Bool.true_and]
  exact decide_eq_true (by omega)
mutual
theorem toPD_eqv : ∀ (n : Nat) (d e : D), D.shp n d = true → D.shp n e = true → PyData.eqv (toPD d) (toPD e) = D.eqv d e := fun n d e hd he => by
  cases d <;> cases e <;> first
    | (simp [toPD, PyData.eqv, D.eqv]; done)
    | (cases n <;> simp [D.shp] at hd; done)
    | (cases n <;> simp [D.shp] at he; done)
    | skip
  · rename_i a b
    simp only [toPD, PyData.eqv, D.eqv]
    by_cases h : a = b
    · subst h; simp
    · have : sOf a ≠ sOf b := fun z => h (sOf_inj z)
      rw [beq_eq_false_iff_ne.mpr this, beq_eq_false_iff_ne.mpr h]
  · rename_i xs ys
    cases n with
    | zero => simp [D.shp] at hd
    | succ n => simp only [toPD, PyData.eqv, D.eqv]; exact toPDs_eqv n xs ys hd he
  · rename_i xs ys
    cases n with
    | zero => simp [D.shp] at hd
    | succ n => simp only [toPD, PyData.eqv, D.eqv]; exact toPDs_eqv n xs ys hd he
theorem toPDs_eqv : ∀ (n : Nat) (ds es : List D), D.shps n ds = true → D.shps n es = true → PyData.eqvAll (toPDs ds) (toPDs es) = D.eqvs ds es
  | n, [], [], _, _ => by simp [toPDs, PyData.eqvAll, D.eqvs]
  | n, [], _ :: _, _, _ => by simp [toPDs, PyData.eqvAll, D.eqvs]
  | n, _ :: _, [], _, _ => by simp [toPDs, PyData.eqvAll, D.eqvs]
  | n, d :: ds, e :: es, hd, he => by
    have hd : (D.shp n d && D.shps n ds) = true := by cases n <;> exact hd
    have he : (D.shp n e && D.shps n es) = true := by cases n <;> exact he
    rw [Bool.and_eq_true] at hd he
    simp only [toPDs, PyData.eqvAll, D.eqvs]
    rw [toPD_eqv n d e hd.1 he.1, toPDs_eqv n ds es hd.2 he.2]
end
section
variable {S : Inf} {H : Hp} {B : Bad} {Γ : List Addr}
mutual
theorem Rep.dp : ∀ {v : V} {d : D} (n : Nat), Rep S H B Γ v d → D.shp n d = true → Dp S.K H v (toPD d)
  | _, _, _, .non, _ => .non
  | _, _, _, .bl b, _ => .bl b
  | _, _, _, .int i, _ => .int i
  | _, _, _, .str l, _ => .str _
  | _, _, 0, .tup h r, e => by simp [D.shp] at e
  | _, _, n + 1, .tup h r, e => .tup h (Reps.dp n r e)
  | _, _, 0, .lst h nb r, e => by simp [D.shp] at e
  | _, _, n + 1, .lst h nb r, e => .lst (SqL.of h) (Reps.dp n r e)
  | _, _, n, .dic _ _ _ _, e => by cases n <;> simp [D.shp] at e
  | _, _, n, .fn f, e => by cases n <;> simp [D.shp] at e
  | _, _, n, .mref h, e => by cases n <;> simp [D.shp] at e
  | _, _, n, .scr h r, e => by cases n <;> simp [D.shp] at e
theorem Reps.dp : ∀ {vs : List V} {ds : List D} (n : Nat), Reps S H B Γ vs ds → D.shps n ds = true → DpAll S.K H vs (toPDs ds)
  | _, _, _, .nil, _ => .nil
  | _, _, n, .cons h r, e => by
    rename_i v vs d ds
    have e : (D.shp n d && D.shps n ds) = true := by cases n <;> exact e
    rw [Bool.and_eq_true] at e
    exact .cons (Rep.dp n h e.1) (Reps.dp n r e.2)
end
theorem shp2_ok {x y : D} (h : shp2 x y = true) : D.shp 60 x = true ∧ D.shp 60 y = true := Bool.and_eq_true_iff.mp h
theorem ite_some {α : Type} {c : Bool} {a d : α} (h : (if c then some a else none) = some d) : c = true ∧ a = d := by
  cases c with
  | true => exact ⟨rfl, Option.some.inj h⟩
  | false => cases h
theorem toPDs_eq : ∀ ds : List D, toPDs ds = ds.map toPD
  | [] => rfl
  | d :: ds => by rw [toPDs, toPDs_eq ds]; rfl
end

/-! ### the operations -/
section
variable {S : Inf} {X : Cx}
def rAddR (K : PySem.W.Frag) : R2 := fun x y H Q => (∃ i j, x = .int i ∧ y = .int j ∧ Q (.int (i + j)) H) ∨ (∃ i j, x = .str i ∧ y = .str j ∧ i.length + j.length ≤ sizeLine ∧ Q (.str (i ++ j)) H) ∨ rCatA K x y H Q ∨ rCat x y H Q
theorem op_addR : OpR X (binaryOp .Add) (rAddR X.K) := op_add.or (op_add_str.or (op_catA.or op_cat))
theorem ro_add : RO S (rAddR S.K) (op2 .add) := by
  intro H B Γ v1 v2 d1 d2 d Q ok r1 r2 e k
  cases r1 with
  | int i =>
    cases r2 with
    | int j => injection e with e; subst e; exact .inl ⟨i, j, rfl, rfl, k _ H (L2.Same.refl H) (.int _) trivial⟩
    | _ => cases e
  | str a =>
    cases r2 with
    | str b =>
      obtain ⟨hl, rfl⟩ := ite_some e
      have hl := Nat.le_of_ble_eq_true hl
      refine .inr (.inl ⟨_, _, rfl, rfl, ?_, ?_⟩)
      · rw [sOf_len, sOf_len]; exact Nat.le_trans hl lineN_le
      · rw [sOf_app]; exact k _ H (L2.Same.refl H) (.str _) trivial
    | _ => cases e
  | tup h1 q1 =>
    cases r2 with
    | tup h2 q2 =>
      obtain ⟨hl, rfl⟩ := ite_some e
      have hl := Nat.le_of_ble_eq_true hl
      refine .inr (.inr (.inl ⟨_, _, _, _, rfl, rfl, h1, h2, by rw [q1.length, q2.length]; exact Nat.le_trans hl lineN_le, fun z => ?_, fun z z2 => ?_, fun z z2 p hp => ?_⟩))
      · subst z; cases q1; exact k _ H (L2.Same.refl H) (.tup h2 q2) trivial
      · subst z2; cases q2; rw [List.append_nil] at k; exact k _ H (L2.Same.refl H) (.tup h1 q1) trivial
      · exact k _ _ (same_laid hp) (new_tup ok hp (q1.append q2)) trivial
    | _ => cases e
  | lst h1 n1 q1 =>
    cases r2 with
    | lst h2 n2 q2 =>
      obtain ⟨hl, rfl⟩ := ite_some e
      have hl := Nat.le_of_ble_eq_true hl
      refine .inr (.inr (.inr ⟨_, _, _, _, rfl, rfl, h1, h2, by rw [q1.length, q2.length]; exact Nat.le_trans hl lineN_le, fun p hp => ?_⟩))
      obtain ⟨x1, x2⟩ := new_lst ok hp (q1.append q2)
      exact k _ _ (same_laid hp) x1 x2
    | _ => cases e
  | _ => cases r2 <;> cases e
theorem ro_sub : RO S (rI0 fun i j => .int (i - j)) (op2 .sub) := by
  intro H B Γ v1 v2 d1 d2 d Q ok r1 r2 e k
  cases r1 with
  | int i =>
    cases r2 with
    | int j => injection e with e; subst e; exact ⟨i, j, rfl, rfl, k _ H (L2.Same.refl H) (.int _) trivial⟩
    | _ => cases e
  | _ => cases r2 <;> cases e
/-- * of ints whose product's bits are told -/
def CMulX (i j : Int) : Prop := mulOk i j = true
theorem CMulX.ok {i j : Int} (h : CMulX i j) : IntMulOk i j := by
  have b : ∀ x : Int, Builtin.Int.intBits x ≤ x.natAbs.log2 + 1 := fun x => by
    unfold Builtin.Int.intBits
    split <;> omega
  have h1 := b i
  have h2 := b j
  have h3 : i.natAbs.log2 + j.natAbs.log2 < 100000000 := Nat.le_of_ble_eq_true h
  exact IntMulOk.of_le h1 h2 (by omega)
theorem op_mulX : OpR X (binaryOp .Mult) (rI CMulX fun i j => .int (i * j)) := opI fun _ _ _ _ _ _ _ hc q => mul_int q hc.ok
/-- tuple * int: the same object -/
theorem tuple_mul_same (l : Addr) (items : Array Value) (n : Nat) (dd : Option Addr) (sl : Array (Option Value)) (x : Int) (u : Tok) (c0 : (decide (x < -(2 ^ 63)) || decide (x ≥ 2 ^ 63)) = false) (c1 : (items.isEmpty || x == 1) = true) :
    Meets (Builtin.«tuple.__mul__» ⟨[.ref l, .int x u], []⟩) (fun _ R s => s.heap.get? l = some { cls := .type "tuple", dict := dd, data := .seq items n, slots := sl } ∧ R (.ok (.ret (Value.ref l))) s) :=
  .of_wp fun prog w A R s h => by
    obtain ⟨hp, g, d, tk, os⟩ := s
    obtain ⟨hl, h⟩ := h
    have f1 := AutoSeq1.idx_int
    wp_walk using wpAny_loadPart' hl
    repeat (first
      | (refine wpAny_ite_false (decide_eq_false (by rw [c0]; exact Bool.false_ne_true)) ?_; wp_walk using wpAny_loadPart' hl)
      | (refine wpAny_ite_true (decide_eq_true c1) ?_; wp_walk using wpAny_loadPart' hl))
    exact ⟨_, rfl, h⟩
theorem tuple_mul_none (l : Addr) (items : Array Value) (n : Nat) (dd : Option Addr) (sl : Array (Option Value)) (x : Int) (u : Tok) (c0 : (decide (x < -(2 ^ 63)) || decide (x ≥ 2 ^ 63)) = false) (c1 : (items.isEmpty || x == 1) = false) (c2 : (decide (x ≤ 0) || items.isEmpty) = true) :
    Meets (Builtin.«tuple.__mul__» ⟨[.ref l, .int x u], []⟩) (fun _ R s => s.heap.get? l = some { cls := .type "tuple", dict := dd, data := .seq items n, slots := sl } ∧
      R (.ok (.ret (Value.ref s.heap.objs.size))) { s with heap := s.heap.push { cls := Value.type "tuple", data := Data.seq #[] }, toks := s.toks }) :=
  .of_wp fun prog w A R s h => by
    obtain ⟨hp, g, d, tk, os⟩ := s
    obtain ⟨hl, h⟩ := h
    have f1 := AutoSeq1.idx_int
    wp_walk using wpAny_loadPart' hl
    repeat (first
      | (refine wpAny_ite_false (decide_eq_false (by rw [c0]; exact Bool.false_ne_true)) ?_; wp_walk using wpAny_loadPart' hl)
      | (refine wpAny_ite_false (decide_eq_false (by rw [c1]; exact Bool.false_ne_true)) ?_; wp_walk using wpAny_loadPart' hl)
      | (refine wpAny_ite_true (decide_eq_true c2) ?_; wp_walk using wpAny_loadPart' hl)
      | (refine wpAny_ite_false (decide_eq_false (Nat.not_lt.mpr (Nat.zero_le _))) ?_; wp_walk using wpAny_loadPart' hl))
    exact ⟨_, rfl, h⟩
/-- t * k of any k -/
def rRepA (K : PySem.W.Frag) : R2 := fun x y H Q => ∃ l k xs, x = .ref l ∧ y = .int k ∧ SqT K H l xs ∧ -(2 ^ 62) ≤ k ∧ k < 2 ^ 62 ∧ xs.length * k.toNat ≤ 1000000 ∧
  (xs = [] ∨ k = 1 → Q (.ref l) H) ∧ (xs ≠ [] → k ≠ 1 → ∀ p, H p = none → Q (.ref p) (upd H p (.tup (List.replicate k.toNat xs).flatten)))
theorem op_repA : OpR X (binaryOp .Mult) (rRepA X.K) := by
  intro pins s σ H x y v u Q I rx ry h
  obtain ⟨l, k, xs, rfl, rfl, hT, h1, h2, hz, q0, q1⟩ := h
  cases rx
  obtain ⟨t, rfl⟩ := ry
  obtain ⟨its, r, ⟨⟨cls, dd, data, sl⟩, ho, hc, n, hd⟩, hs⟩ := I.tuple hT
  simp only at hc hd
  subst hc hd
  have hle : its.length = xs.length := r.length.symm
  have c0 : (decide (k < -(2 ^ 63)) || decide (k ≥ 2 ^ 63)) = false := by
    rw [decide_eq_false (by omega), decide_eq_false (by omega)] <;> rfl
  have c3 : ¬ ((its.toArray.size : Nat) : Int) * k > (2 ^ 63 - 1) / 8 := by
    have e1 : its.toArray.size = xs.length := by rw [List.size_toArray, hle]
    rw [e1]
    by_cases hk : 0 ≤ k
    · have e2 : ((xs.length * k.toNat : Nat) : Int) = (xs.length : Int) * k := by rw [Int.natCast_mul, Int.toNat_of_nonneg hk]
      omega
    · have : (xs.length : Int) * k ≤ 0 := Int.mul_nonpos_of_nonneg_of_nonpos (by omega) (by omega)
      omega
  have c4 : Builtin.Tuple.tupleTooMany (((its.toArray.size : Nat) : Int) * k) = false := by
    have e1 : its.toArray.size = xs.length := by rw [List.size_toArray, hle]
    unfold Builtin.Tuple.tupleTooMany
    rw [sizeLine_eq, e1]
    refine decide_eq_false ?_
    by_cases hk : 0 ≤ k
    · have e2 : ((xs.length * k.toNat : Nat) : Int) = (xs.length : Int) * k := by rw [Int.natCast_mul, Int.toNat_of_nonneg hk]
      omega
    · have : (xs.length : Int) * k ≤ 0 := Int.mul_nonpos_of_nonneg_of_nonpos (by omega) (by omega)
      omega
  have flen : (List.replicate k.toNat its).flatten.length ≤ sizeLine := by
    rw [PyProof.Rows.lm_len_rep_flat, hle, sizeLine_eq, Nat.mul_comm]
    omega
  refine wpAny_binaryOp_repeat_ref (T := "tuple") (U := "int") (by decide) ⟨_, ho, rfl⟩ (fun s' => typeIs_int s' k t) noFill_tuple_mul F.fills_int_mul F.slot_int_rmul repeat_tuple F.slot_int_index.lookup
    (call_meets F.slot_int_rmul (typeIs_int s k t) F.entry_int_rmul (F.args_int_rmul_2 _ _) (int_rmul_tuple k t l its.toArray n dd sl)
      ⟨ho, rfl, ⟨_, ho, rfl⟩, ?_⟩)
  have iT : s.heap.get? l = some { cls := .type "tuple", dict := dd, data := .seq its.toArray n, slots := sl } := ho
  by_cases c1 : (its.toArray.isEmpty || k == 1) = true
  · refine call_meets F.slot_tuple_mul ⟨_, ho, rfl⟩ F.entry_tuple_mul (F.args_tuple_mul_2 _ _) (tuple_mul_same l its.toArray n dd sl k t c0 c1) ⟨ho, ?_⟩
    refine ⟨.ref l, H, I, rfl, q0 ?_⟩
    rw [Bool.or_eq_true] at c1
    rcases c1 with c1 | c1
    · left
      have : its = [] := by simpa using c1
      rw [this] at hle
      exact List.eq_nil_of_length_eq_zero hle.symm
    · exact .inr (by simpa using c1)
  · have c1 : (its.toArray.isEmpty || k == 1) = false := by simpa using c1
    have hi : its.toArray.isEmpty = false := (Bool.or_eq_false_iff.mp c1).1
    have hk1 : k ≠ 1 := by simpa using (Bool.or_eq_false_iff.mp c1).2
    have hne : xs ≠ [] := fun z => by
      subst z
      have : its = [] := List.eq_nil_of_length_eq_zero hle
      subst this
      simp at hi
    by_cases hk : k ≤ 0
    · refine call_meets F.slot_tuple_mul ⟨_, ho, rfl⟩ F.entry_tuple_mul (F.args_tuple_mul_2 _ _) (tuple_mul_none l its.toArray n dd sl k t c0 c1 (by rw [decide_eq_true hk]; rfl)) ⟨ho, ?_⟩
      have e0 : k.toNat = 0 := by omega
      refine ⟨.ref s.heap.objs.size, _, I.laid (t' := s.toks) (o := .tup (List.replicate k.toNat xs).flatten) (fun b ob q => Heap.get?_push_of_some _ q) (Nat.le_refl _) ?_, rfl, q1 hne hk1 _ (I.hok.fresh (Nat.le_refl _))⟩
      rw [e0]
      exact ⟨Nat.zero_le _, [], .nil, IsTup.new _ _⟩
    · have c2 : (decide (k ≤ 0) || its.toArray.isEmpty) = false := by rw [hi, Bool.or_false]; exact decide_eq_false hk
      refine call_meets F.slot_tuple_mul ⟨_, ho, rfl⟩ F.entry_tuple_mul (F.args_tuple_mul_2 _ _) (tuple_mulW l its.toArray n dd sl k t c0 c1 c2 c3 c4 (by rw [size_rep, List.size_toArray]; exact flen)) ⟨ho, ?_⟩
      rw [size_rep]
      refine ⟨.ref s.heap.objs.size, _, I.laid (t' := s.toks) (o := .tup (List.replicate k.toNat xs).flatten) (fun b ob q => Heap.get?_push_of_some _ q) (Nat.le_refl _) ?_, rfl, q1 hne hk1 _ (I.hok.fresh (Nat.le_refl _))⟩
      exact ⟨by rw [PyProof.Rows.lm_len_rep_flat, sizeLine_eq, Nat.mul_comm]; omega, _, r.rep k.toNat, IsTup.new _ _⟩
def rMulR (K : PySem.W.Frag) : R2 := fun x y H Q => rI CMulX (fun i j => .int (i * j)) x y H Q ∨ rRepA K x y H Q ∨ rRep x y H Q
theorem op_mulR : OpR X (binaryOp .Mult) (rMulR X.K) := op_mulX.or (op_repA.or op_rep)
theorem shortI_ok {k : Int} (h : shortI k = true) : -(2 ^ 62) ≤ k ∧ k < 2 ^ 62 := by
  unfold shortI at h
  rw [Bool.and_eq_true] at h
  exact ⟨of_decide_eq_true h.1, of_decide_eq_true h.2⟩
theorem ro_mul : RO S (rMulR S.K) (op2 .mul) := by
  intro H B Γ v1 v2 d1 d2 d Q ok r1 r2 e k
  cases r1 with
  | int i =>
    cases r2 with
    | int j =>
      obtain ⟨hm, rfl⟩ := ite_some e
      exact .inl ⟨i, j, rfl, rfl, hm, k _ H (L2.Same.refl H) (.int _) trivial⟩
    | _ => cases e
  | tup h1 q1 =>
    cases r2 with
    | int j =>
      rename_i a vs ds
      obtain ⟨hm, rfl⟩ := ite_some e
      rw [Bool.and_eq_true] at hm
      obtain ⟨b1, b2⟩ := shortI_ok hm.1
      have hz : ds.length * j.toNat ≤ lineN := Nat.le_of_ble_eq_true hm.2
      refine .inr (.inl ⟨_, j, _, rfl, rfl, h1, b1, b2, by rw [q1.length]; exact hz, fun z => ?_, fun z z2 p hp => ?_⟩)
      · have r := q1.rep j.toNat
        have ee : (List.replicate j.toNat vs).flatten = vs := by
          rcases z with z | z
          · subst z; simp
          · subst z; simp
        rw [ee] at r
        exact k _ H (L2.Same.refl H) (.tup h1 r) trivial
      · exact k _ _ (same_laid hp) (new_tup ok hp (q1.rep j.toNat)) trivial
    | _ => cases e
  | lst h1 n1 q1 =>
    cases r2 with
    | int j =>
      rename_i a vs ds
      obtain ⟨hm, rfl⟩ := ite_some e
      rw [Bool.and_eq_true] at hm
      obtain ⟨b1, b2⟩ := shortI_ok hm.1
      have hz : ds.length * j.toNat ≤ lineN := Nat.le_of_ble_eq_true hm.2
      refine .inr (.inr ⟨_, j, _, rfl, rfl, h1, by omega, by omega, by rw [q1.length]; exact Nat.le_trans hz lineN_le, fun p hp => ?_⟩)
      obtain ⟨x1, x2⟩ := new_lst ok hp (q1.rep j.toNat)
      exact k _ _ (same_laid hp) x1 x2
    | _ => cases e
  | _ => cases r2 <;> cases e
/-- // of great ints, any sign -/
def CDivX (i j : Int) : Prop := divOk i j = true
theorem noPy {x y : Int} (h : x.natAbs.log2 < y.natAbs.log2 + 4400) (h0 : y ≠ 0) : Builtin.divisionGoesByPylong x y = false := by
  have e1 : (if y == 0 then 0 else y.natAbs.log2 / 30 + 1) = y.natAbs.log2 / 30 + 1 := if_neg (by simpa using h0)
  have e2 : (if x == 0 then 0 else x.natAbs.log2 / 30 + 1) ≤ x.natAbs.log2 / 30 + 1 := by
    split
    · exact Nat.zero_le _
    · exact Nat.le_refl _
  have e3 : decide ((if x == 0 then 0 else x.natAbs.log2 / 30 + 1) > (if y == 0 then 0 else y.natAbs.log2 / 30 + 1) + 150) = false := decide_eq_false (by rw [e1]; omega)
  show (_ && decide ((if x == 0 then 0 else x.natAbs.log2 / 30 + 1) > (if y == 0 then 0 else y.natAbs.log2 / 30 + 1) + 150)) = false
  exact (congrArg (Bool.and _) e3).trans (Bool.and_false _)
theorem op_fdivX : OpR X (binaryOp .FloorDiv) (rI CDivX fun i j => .int (i.fdiv j)) := opI fun i j _ _ _ _ _ hc q => by
  unfold CDivX divOk at hc
  rw [Bool.and_eq_true, Bool.or_eq_true] at hc
  have h0 : j ≠ 0 := by simpa using hc.1
  rcases hc.2 with h | h
  · exact floordiv_int h0 q (.inl (PyProof.noPylong_of_log2 (Nat.le_of_ble_eq_true h)))
  · exact floordiv_int h0 q (.inl (noPy (Nat.le_of_ble_eq_true h) h0))
theorem ro_fdiv : RO S (rI CDivX fun i j => .int (i.fdiv j)) (op2 .fdiv) := by
  intro H B Γ v1 v2 d1 d2 d Q ok r1 r2 e k
  cases r1 with
  | int i =>
    cases r2 with
    | int j =>
      obtain ⟨hm, rfl⟩ := ite_some e
      exact ⟨i, j, rfl, rfl, hm, k _ H (L2.Same.refl H) (.int _) trivial⟩
    | _ => cases e
  | _ => cases r2 <;> cases e
theorem ro_mod : RO S (rI (fun _ j => j ≠ 0) fun i j => .int (i.fmod j)) (op2 .mod) := by
  intro H B Γ v1 v2 d1 d2 d Q ok r1 r2 e k
  cases r1 with
  | int i =>
    cases r2 with
    | int j =>
      have e : (if (j == 0) = true then none else some (D.int (i.fmod j))) = some d := e
      by_cases hj : (j == 0) = true
      · rw [if_pos hj] at e; cases e
      · rw [if_neg hj] at e
        injection e with e; subst e
        exact ⟨i, j, rfl, rfl, by simpa using hj, k _ H (L2.Same.refl H) (.int _) trivial⟩
    | _ => cases e
  | _ => cases r2 <;> cases e
theorem ro_pow : RO S (rI CPow fun i j => .int (i ^ j.toNat)) (op2 .pow) := by
  intro H B Γ v1 v2 d1 d2 d Q ok r1 r2 e k
  cases r1 with
  | int i =>
    cases r2 with
    | int j =>
      obtain ⟨hm, rfl⟩ := ite_some e
      unfold powOk at hm
      rw [Bool.and_eq_true, Bool.and_eq_true] at hm
      have a1 := of_decide_eq_true hm.1.1
      have a2 := of_decide_eq_true hm.1.2
      have a3 : i.natAbs < 18446744073709551616 := Nat.le_of_ble_eq_true hm.2
      exact ⟨i, j, rfl, rfl, ⟨a1, by omega, a3⟩, k _ H (L2.Same.refl H) (.int _) trivial⟩
    | _ => cases e
  | _ => cases r2 <;> cases e
theorem ro_eq : RO S (rEqD S.K) (op2 .eq) := by
  intro H B Γ v1 v2 d1 d2 d Q ok r1 r2 e k
  obtain ⟨hm, rfl⟩ := ite_some e
  obtain ⟨s1, s2⟩ := shp2_ok hm
  refine ⟨toPD d1, toPD d2, r1.dp 60 s1, r2.dp 60 s2, toPD_shaped s1, toPD_shaped s2, ?_⟩
  rw [toPD_eqv 60 d1 d2 s1 s2]
  exact k _ H (L2.Same.refl H) (.bl _) trivial
theorem ro_ne : RO S (rNeD S.K) (op2 .ne) := by
  intro H B Γ v1 v2 d1 d2 d Q ok r1 r2 e k
  obtain ⟨hm, rfl⟩ := ite_some e
  obtain ⟨s1, s2⟩ := shp2_ok hm
  refine ⟨toPD d1, toPD d2, r1.dp 60 s1, r2.dp 60 s2, toPD_shaped s1, toPD_shaped s2, ?_⟩
  rw [toPD_eqv 60 d1 d2 s1 s2]
  exact k _ H (L2.Same.refl H) (.bl _) trivial
theorem ro_cmp {o : Op} {f : Int → Int → Bool} (h1 : ∀ i j, op2 o (.int i) (.int j) = some (.bl (f i j))) (h2 : ∀ x y d, op2 o x y = some d → (∃ i, x = .int i) ∧ ∃ j, y = .int j) : RO S (rI0 fun i j => .bl (f i j)) (op2 o) := by
  intro H B Γ v1 v2 d1 d2 d Q ok r1 r2 e k
  obtain ⟨⟨i, rfl⟩, ⟨j, rfl⟩⟩ := h2 _ _ _ e
  rw [h1] at e
  injection e with e; subst e
  cases r1
  cases r2
  exact ⟨i, j, rfl, rfl, k _ H (L2.Same.refl H) (.bl _) trivial⟩
theorem ro_lt : RO S (rI0 fun i j => .bl (decide (i < j))) (op2 .lt) := ro_cmp (fun _ _ => rfl) fun x y d e => by cases x <;> cases y <;> first | exact ⟨⟨_, rfl⟩, ⟨_, rfl⟩⟩ | cases e
theorem ro_le : RO S (rI0 fun i j => .bl (decide (i ≤ j))) (op2 .le) := ro_cmp (fun _ _ => rfl) fun x y d e => by cases x <;> cases y <;> first | exact ⟨⟨_, rfl⟩, ⟨_, rfl⟩⟩ | cases e
theorem ro_gt : RO S (rI0 fun i j => .bl (decide (j < i))) (op2 .gt) := ro_cmp (fun _ _ => rfl) fun x y d e => by cases x <;> cases y <;> first | exact ⟨⟨_, rfl⟩, ⟨_, rfl⟩⟩ | cases e
theorem ro_ge : RO S (rI0 fun i j => .bl (decide (j ≤ i))) (op2 .ge) := ro_cmp (fun _ _ => rfl) fun x y d e => by cases x <;> cases y <;> first | exact ⟨⟨_, rfl⟩, ⟨_, rfl⟩⟩ | cases e
/-- is None, is not None -/
theorem ro_is : RO S (fun x y H Q => y = .non ∧ Q (.bl (decide (x = .non))) H) (op2 .is_) := by
  intro H B Γ v1 v2 d1 d2 d Q ok r1 r2 e k
  cases r2 with
  | non =>
    refine ⟨rfl, ?_⟩
    cases r1 <;> (injection e with e; subst e; first | exact k _ H (L2.Same.refl H) (.bl true) trivial | exact k _ H (L2.Same.refl H) (.bl false) trivial)
  | _ => cases r1 <;> cases e
theorem ro_isnt : RO S (fun x y H Q => y = .non ∧ Q (.bl (!decide (x = .non))) H) (op2 .isnt) := by
  intro H B Γ v1 v2 d1 d2 d Q ok r1 r2 e k
  cases r2 with
  | non =>
    refine ⟨rfl, ?_⟩
    cases r1 <;> (injection e with e; subst e; first | exact k _ H (L2.Same.refl H) (.bl true) trivial | exact k _ H (L2.Same.refl H) (.bl false) trivial)
  | _ => cases r1 <;> cases e
end
end Rz

/-! RzS4 -/
set_option Elab.async false
set_option linter.all false
set_option maxRecDepth 100000
set_option maxHeartbeats 4000000
namespace Rz
open PySem PySem.Spec PyProof.Rows L2

/-! ### sources that are walked: a list, a tuple -/
inductive Src where
  | l (a : Addr)
  | t (a : Addr)
def Src.ad : Src → Addr
  | .l a => a
  | .t a => a
def Src.Sq (K : PySem.W.Frag) (H : Hp) : Src → List V → Prop
  | .l a, xs => SqL K H a xs
  | .t a, xs => SqT K H a xs
def Src.It (h : Heap) (it : Addr) (i : Nat) : Src → Prop
  | .l a => h.IsListIter it a i
  | .t a => h.IsTupleIter it a i
def Src.At (h : Heap) (its : Array Value) : Src → Prop
  | .l a => h.IsList a its
  | .t a => h.IsTuple a its
def Src.obj : Src → Obj
  | .l a => { cls := .type "list_iterator", data := .fields #[.ref a, .int 0 0] }
  | .t a => { cls := .type "tuple_iterator", data := .fields #[.ref a, .int 0 0] }
section
variable {X : Cx} {pins : List (Addr × Obj)} {σ : L2.St} {H : Hp} {s : Shared} {prog : Program} {w : World} {A : Around}
theorem Src.read (I : L2.Inv X pins σ H s) {c : Src} {xs : List V} (h : c.Sq X.K H xs) : ∃ its : List Value, Vals xs its ∧ c.At s.heap its.toArray ∧ xs.length ≤ sizeLine ∧ c.ad < s.heap.objs.size := by
  cases c with
  | l a =>
    obtain ⟨its, r, p, z⟩ := I.list h
    exact ⟨its, r, p.isList, z, p.lt⟩
  | t a =>
    obtain ⟨its, r, p, z⟩ := I.tuple h
    exact ⟨its, r, p, z, p.lt⟩
theorem Src.inj (I : L2.Inv X pins σ H s) {c : Src} {xs ys : List V} (h : c.Sq X.K H xs) (h' : c.Sq X.K H ys) : xs = ys := by
  cases c with
  | l a => exact I.list_inj h h'
  | t a => exact I.tuple_inj h h'
theorem Src.draws (hh : A.handled = none) (c : Src) (it : Addr) (hne : c.ad ≠ it) (its : Array Value) :
    Draws prog w A it [it, c.ad] its.size (fun i v => its[i]? = some v) (fun i h => c.It h it i ∧ c.At h its) := by
  cases c with
  | l a => exact Draws.list hh it a hne its
  | t a => exact Draws.tuple hh it a hne its
theorem Src.begins (c : Src) (its : Array Value) : Begins (.ref c.ad) c.obj fun h => c.At h its := by
  cases c with
  | l a => exact begins_list a its
  | t a => exact begins_tuple a its
theorem Src.It.rec_ {h : Heap} {it : Addr} {i : Nat} {c : Src} (x : c.It h it i) : ∃ o, h.get? it = some o ∧ ∀ v, o.data ≠ .cell v := by
  cases c with
  | l a => obtain ⟨o, e, _, d⟩ := x; exact ⟨o, e, fun v q => by rw [d] at q; cases q⟩
  | t a => obtain ⟨o, e, _, d⟩ := x; exact ⟨o, e, fun v q => by rw [d] at q; cases q⟩
theorem Src.It.at_ {h h' : Heap} {it : Addr} {i : Nat} {c : Src} (x : c.It h it i) (k : ∀ o, h.get? it = some o → h'.get? it = some o) : c.It h' it i := by
  cases c with
  | l a => exact Heap.IsListIter.at x k
  | t a => exact Heap.IsTupleIter.at x k
theorem Src.first {h : Heap} {it : Addr} (c : Src) (e : h.get? it = some c.obj) : c.It h it 0 := by
  cases c with
  | l a => exact ⟨_, e, rfl, rfl⟩
  | t a => exact ⟨_, e, rfl, rfl⟩
end

/-! ### zip of two sources -/
def ItzS (K : PySem.W.Frag) (c d : Src) : L2.It :=
  ⟨fun i H => ∃ (xs ys : List V) (x y : V), c.Sq K H xs ∧ d.Sq K H ys ∧ xs[i]? = some x ∧ ys[i]? = some y,
    fun i H v H' => ∃ T x y, v = .ref T ∧ H T = none ∧ H' = upd H T (.tup [x, y]) ∧ (∀ xs, c.Sq K H xs → xs[i]? = some x) ∧ ∀ ys, d.Sq K H ys → ys[i]? = some y,
    fun i H => ∃ xs ys : List V, c.Sq K H xs ∧ d.Sq K H ys ∧ i = min xs.length ys.length⟩
/-- the cells of a zip made at n, its sources older -/
structure ZAt (n z TI TO i1 i2 : Addr) (c d : Src) : Prop where
  z : z = n + 4
  TI : TI = n + 2
  TO : TO = n + 3
  i1 : i1 = n
  i2 : i2 = n + 1
  c : c.ad < n
  d : d.ad < n
theorem n_notin {x a b : Nat} (h1 : x ≠ a) (h2 : x ≠ b) : x ∉ [a, b] := by
  simp only [List.mem_cons, List.not_mem_nil, or_false]
  omega
theorem n_nea {n k a : Nat} (h : a < n) : n + k ≠ a := by omega
theorem n_neb {n a : Nat} (h : a < n) : n ≠ a := by omega
theorem n_nec {n j k : Nat} (h : j ≠ k) : n + j ≠ n + k := by omega
theorem n_ned {n j : Nat} (h : 0 < j) : n + j ≠ n := by omega
theorem nz_sep (n c d : Nat) (hc : c < n) (hd : d < n) : @ZipSep2 (n + 4) (n + 2) (n + 3) n (n + 1) [n, c] [n + 1, d] where
  TIz := n_nec (by decide)
  TOz := n_nec (by decide)
  TITO := n_nec (by decide)
  TIi1 := n_ned (by decide)
  mem1 := by simp
  zf1 := n_notin (n_ned (by decide)) (n_nea hc)
  Tf1 := n_notin (n_ned (by decide)) (n_nea hc)
  TIi2 := n_nec (by decide)
  mem2 := by simp
  zf2 := n_notin (n_nec (by decide)) (n_nea hd)
  Tf2 := n_notin (n_nec (by decide)) (n_nea hd)
  sep1_2 := n_notin (Ne.symm (n_ned (by decide))) (n_neb hd)
  sep2_1 := n_notin (n_ned (by decide)) (n_nea hc)
theorem ZAt.sep {n z TI TO i1 i2 : Addr} {c d : Src} (Z : ZAt n z TI TO i1 i2 c d) : ZipSep2 z TI TO i1 i2 [i1, c.ad] [i2, d.ad] := by
  obtain ⟨rfl, rfl, rfl, rfl, rfl, hc, hd⟩ := Z
  exact nz_sep _ _ _ hc hd
theorem n_ne1 {a n i : Nat} (h : a < n) (e : i = n) : a ≠ i := by omega
theorem n_ne2 {a n i : Nat} (h : a < n) (e : i = n + 1) : a ≠ i := by omega
theorem n_ne3 {e it : Nat} (h : e = it + 1) : e ≠ it := by omega
theorem n_ne4 {e it a : Nat} (h : e = it + 1) (h2 : a < it) : e ∉ [it, a] := by
  simp only [List.mem_cons, List.not_mem_nil, or_false]
  omega
theorem turn_zipS {P : Program} {w : World} {K : PySem.W.Frag} {elts : List Expr} {kk : Nat} {tpos : Pos} {n z TI TO i1 i2 : Addr} {c d : Src} (Z : ZAt n z TI TO i1 i2 c d) :
    Turn P w K (.Tuple elts kk tpos) (ItzS K c d) [z, TI, TO, i1, i2] z
      (fun i h => IsZip h z TI TO .none ∧ IsTupOf2 h TI (.ref i1) (.ref i2) ∧ (∃ x y, IsTupOf2 h TO x y) ∧ c.It h i1 i ∧ d.It h i2 i) where
  mem := by simp
  obj := fun i h st b hb => by
    obtain ⟨hz, hTI, ⟨x, y, hTO⟩, h1, h2⟩ := st
    have e' : b = z ∨ b = TI ∨ b = TO ∨ b = i1 ∨ b = i2 := by simpa using hb
    rcases e' with q | q | q | q | q
    · rw [q]; exact ⟨_, hz, fun v q => nomatch q⟩
    · rw [q]; exact ⟨_, hTI, fun v q => nomatch q⟩
    · rw [q]; exact ⟨_, hTO, fun v q => nomatch q⟩
    · rw [q]; exact h1.rec_
    · rw [q]; exact h2.rec_
  keep := fun i h h' st k => by
    obtain ⟨hz, hTI, ⟨x, y, hTO⟩, h1, h2⟩ := st
    exact ⟨k z (by simp) _ hz, k TI (by simp) _ hTI, ⟨x, y, k TO (by simp) _ hTO⟩, h1.at_ fun o q => k i1 (by simp) o q, h2.at_ fun o q => k i2 (by simp) o q⟩
  item := by
    intro X hP hw hK hc i pins s σ H E I hf st hg
    subst hP hw hK
    obtain ⟨xs, ys, x, y, hqx, hqy, hx, hy⟩ := hg
    obtain ⟨its, rv, p, _, _⟩ := Src.read I hqx
    obtain ⟨its2, rv2, p2, _, _⟩ := Src.read I hqy
    obtain ⟨u, hu, ru⟩ := rv.get hx
    obtain ⟨u2, hu2, ru2⟩ := rv2.get hy
    obtain ⟨hz, hTI, hTO, h1, h2⟩ := st
    have hh : X.A.in1.handled = none := I.ok.hd hc
    have G := GoesN.zip2 (prog := X.prog) (w := X.w) (A := X.A) (elts := elts) (x1 := kk) (pos := tpos) Z.sep
      (Src.draws hh c i1 (n_ne1 Z.c Z.i1) its.toArray)
      (Src.draws hh d i2 (n_ne2 Z.d Z.i2) its2.toArray)
    have hi : i < min its.toArray.size its2.toArray.size := by
      have a1 : i < its.length := (List.getElem?_eq_some_iff.mp hu).1
      have a2 : i < its2.length := (List.getElem?_eq_some_iff.mp hu2).1
      simp only [List.size_toArray]
      omega
    refine G.goes i s _ E hi ⟨hz, hTI, hTO, ⟨h1, p⟩, ⟨h2, p2⟩⟩ fun v h' tk ⟨T, a, b, ev, hn, ea, eb, hT⟩ ⟨z', TI', TO', ⟨h1', _⟩, ⟨h2', _⟩⟩ hk _ => ?_
    have ea' : a = u := by
      have : its[i]? = some a := by simpa using ea
      rw [hu] at this; exact (Option.some.inj this).symm
    have eb' : b = u2 := by
      have : its2[i]? = some b := by simpa using eb
      rw [hu2] at this; exact (Option.some.inj this).symm
    subst ea' eb' ev
    have new : ObjOk X.prog X.w (upd H T (.tup [x, y])) h' T (.tup [x, y]) := ⟨by show 2 ≤ sizeLine; decide, [a, b], .cons ru (.cons ru2 .nil), hT⟩
    have I1 : L2.Inv X pins σ (upd H T (.tup [x, y])) { s with heap := h', toks := tk } :=
      I.turnedNew (ch := [z, TI, TO, i1, i2]) (fun c o hb q => hk c o (fun q' => hb (by
        simp only [List.mem_cons, List.not_mem_nil, or_false] at q' ⊢
        rcases q' with q' | q' | q' | q' <;> simp [q'])) q) hf hn new
    refine ⟨.ref T, _, I1, rfl, ⟨T, x, y, rfl, I.hok.fresh hn, rfl, fun l hl => by rw [Src.inj I hl hqx]; exact hx, fun l hl => by rw [Src.inj I hl hqy]; exact hy⟩, ⟨z', TI', TO', h1', h2'⟩, fun b hb => ?_⟩
    have hlt : b < s.heap.objs.size := by
      have e' : b = z ∨ b = TI ∨ b = TO ∨ b = i1 ∨ b = i2 := by simpa using hb
      obtain ⟨x0, y0, hTO⟩ := hTO
      rcases e' with q | q | q | q | q
      · rw [q]; exact Heap.lt_size hz
      · rw [q]; exact Heap.lt_size hTI
      · rw [q]; exact Heap.lt_size hTO
      · rw [q]; obtain ⟨_, e1, _⟩ := h1.rec_; exact Heap.lt_size e1
      · rw [q]; obtain ⟨_, e2, _⟩ := h2.rec_; exact Heap.lt_size e2
    rw [upd_ne (Nat.ne_of_lt (Nat.lt_of_lt_of_le hlt hn))]
    exact (hf b hb).1
  done := by
    intro X hP hw hK hc i pins s σ H E I hf st hg
    subst hP hw hK
    obtain ⟨xs, ys, hqx, hqy, hend⟩ := hg
    obtain ⟨its, rv, p, _, _⟩ := Src.read I hqx
    obtain ⟨its2, rv2, p2, _, _⟩ := Src.read I hqy
    obtain ⟨hz, hTI, hTO, h1, h2⟩ := st
    have hh : X.A.in1.handled = none := I.ok.hd hc
    have G := GoesN.zip2 (prog := X.prog) (w := X.w) (A := X.A) (elts := elts) (x1 := kk) (pos := tpos) Z.sep
      (Src.draws hh c i1 (n_ne1 Z.c Z.i1) its.toArray)
      (Src.draws hh d i2 (n_ne2 Z.d Z.i2) its2.toArray)
    have hn : i = min its.toArray.size its2.toArray.size := by
      rw [List.size_toArray, List.size_toArray, ← rv.length, ← rv2.length]; exact hend
    subst hn
    exact G.stops s (fun s1 => L2.Inv X pins σ H s1) E ⟨hz, hTI, hTO, ⟨h1, p⟩, ⟨h2, p2⟩⟩ fun h' tk hk _ => I.turnedL (ch := [z, TI, TO, i1, i2]) (fun c o hb q => hk c o (fun q' => hb (by
        simp only [List.mem_cons, List.not_mem_nil, or_false] at q' ⊢
        rcases q' with q' | q' | q' | q' <;> simp [q'])) q) hf
  self := fun A i s Q E st h => wpAny_pyIter_zip st.1 h

/-! ### enumerate of a source -/
def IteS (K : PySem.W.Frag) (c : Src) : L2.It :=
  ⟨fun i H => ∃ (xs : List V) (x : V), c.Sq K H xs ∧ xs[i]? = some x,
    fun i H v H' => ∃ T x, v = .ref T ∧ H T = none ∧ H' = upd H T (.tup [.int (i : Nat), x]) ∧ ∀ xs, c.Sq K H xs → xs[i]? = some x,
    fun i H => ∃ xs : List V, c.Sq K H xs ∧ i = xs.length⟩
theorem turn_enumS {P : Program} {w : World} {K : PySem.W.Frag} {elts : List Expr} {kk : Nat} {tpos : Pos} {e it : Addr} {c : Src} (h1 : e = it + 1) (h2 : c.ad < it) :
    Turn P w K (.Tuple elts kk tpos) (IteS K c) [e, it] e (fun i h => (∃ old, IsEnum h e it ((i : Nat) : Int) old) ∧ c.It h it i) where
  mem := by simp
  obj := fun i h st b hb => by
    obtain ⟨⟨old, he⟩, h1⟩ := st
    have e' : b = e ∨ b = it := by simpa using hb
    rcases e' with z | z
    · rw [z]; exact ⟨_, he, fun v q => nomatch q⟩
    · rw [z]; exact h1.rec_
  keep := fun i h h' st k => let ⟨⟨old, he⟩, hi⟩ := st; ⟨⟨old, k e (by simp) _ he⟩, hi.at_ fun o q => k it (by simp) o q⟩
  item := by
    intro X hP hw hK hc i pins s σ H E I hf st hg
    subst hP hw hK
    obtain ⟨xs, x, hqx, hx⟩ := hg
    obtain ⟨its, rv, p, _, _⟩ := Src.read I hqx
    obtain ⟨u, hu, ru⟩ := rv.get hx
    obtain ⟨⟨old, he⟩, hit⟩ := st
    have hh : X.A.in1.handled = none := I.ok.hd hc
    have ne1 : c.ad ≠ it := n_ne1 h2 rfl
    have G := GoesN.enumFrom (prog := X.prog) (w := X.w) (A := X.A) (elts := elts) (x1 := kk) (pos := tpos) 0 (Src.draws hh c it ne1 its.toArray) e (n_ne3 h1)
      (n_ne4 h1 h2) (by simp)
    have hi : i < its.toArray.size := by
      have a1 : i < its.length := (List.getElem?_eq_some_iff.mp hu).1
      simpa using a1
    refine G.goes i s _ E hi ⟨⟨old, by rw [Int.zero_add]; exact he⟩, ⟨hit, p⟩⟩ fun v h' tk ⟨T, t, a, ev, hn, ea, hT⟩ ⟨⟨old', he'⟩, ⟨hit', _⟩⟩ hk _ => ?_
    have ea' : a = u := by
      have : its[i]? = some a := by simpa using ea
      rw [hu] at this; exact (Option.some.inj this).symm
    subst ea' ev
    rw [Int.zero_add] at hT he'
    have new : ObjOk X.prog X.w (upd H T (.tup [.int (i : Nat), x])) h' T (.tup [.int (i : Nat), x]) := ⟨by show 2 ≤ sizeLine; decide, [.int (i : Nat) t, a], .cons ⟨_, rfl⟩ (.cons ru .nil), hT⟩
    have I1 : L2.Inv X pins σ (upd H T (.tup [.int (i : Nat), x])) { s with heap := h', toks := tk } :=
      I.turnedNew (ch := [e, it]) (fun c o hb q => hk c o hb q) hf hn new
    refine ⟨.ref T, _, I1, rfl, ⟨T, x, rfl, I.hok.fresh hn, rfl, fun l hl => by rw [Src.inj I hl hqx]; exact hx⟩, ⟨⟨old', he'⟩, hit'⟩, fun b hb => ?_⟩
    have hlt : b < s.heap.objs.size := by
      have e' : b = e ∨ b = it := by simpa using hb
      rcases e' with q | q
      · rw [q]; exact Heap.lt_size he
      · rw [q]; obtain ⟨_, e1, _⟩ := hit.rec_; exact Heap.lt_size e1
    rw [upd_ne (Nat.ne_of_lt (Nat.lt_of_lt_of_le hlt hn))]
    exact (hf b hb).1
  done := by
    intro X hP hw hK hc i pins s σ H E I hf st hg
    subst hP hw hK
    obtain ⟨xs, hqx, hend⟩ := hg
    obtain ⟨its, rv, p, _, _⟩ := Src.read I hqx
    obtain ⟨⟨old, he⟩, hit⟩ := st
    have hh : X.A.in1.handled = none := I.ok.hd hc
    have ne1 : c.ad ≠ it := n_ne1 h2 rfl
    have G := GoesN.enumFrom (prog := X.prog) (w := X.w) (A := X.A) (elts := elts) (x1 := kk) (pos := tpos) 0 (Src.draws hh c it ne1 its.toArray) e (n_ne3 h1)
      (n_ne4 h1 h2) (by simp)
    have hn : i = its.toArray.size := by rw [List.size_toArray, ← rv.length]; exact hend
    subst hn
    exact G.stops s (fun s1 => L2.Inv X pins σ H s1) E ⟨⟨old, by rw [Int.zero_add]; exact he⟩, ⟨hit, p⟩⟩ fun h' tk hk _ => I.turnedL (ch := [e, it]) (fun c o hb q => hk c o hb q) hf
  self := fun A i s Q E st h => let ⟨⟨_, he⟩, _⟩ := st; wpAny_pyIter_enum he h

set_option maxHeartbeats 1000000 in
theorem meets_enumerate_newA {v : Value} {o : Obj} {H : Heap → Prop} (B : Begins v o H) :
    Meets (Builtin.«enumerate.__new__» ⟨[.type "enumerate", v], []⟩) (fun _ R s => H s.heap ∧
      R (.ok (.ret (.ref (s.heap.push o).objs.size))) { s with heap := (s.heap.push o).push { cls := .type "enumerate", data := .fields #[.none, .bool false, .ref s.heap.objs.size, rawInt 0, .none, .none] } }) :=
  .of_wp fun prog w A R s h => by
    obtain ⟨hp, g, d, tk, os⟩ := s; obtain ⟨h1, h⟩ := h
    have hsub := sub_enumerate
    have q1 : ∀ {A' : Around} {E : Value → Shared → Prop} {Q : Value → Shared → Prop}, Q (.ref hp.objs.size) ⟨hp.push o, g, d, tk, os⟩ → wpAny (model prog w) A' (pyIter v) Q E ⟨hp, g, d, tk, os⟩ :=
      fun q => B.iter prog w _ _ ⟨hp, g, d, tk, os⟩ _ h1 q
    wp_walk using q1
    refine wpAny_stack_any fun st => wpAny_pure ?_
    split
    · rename_i c _ _ _ _ _
      cases (c == Value.type "enumerate")
      · wp_walk using q1
        exact ⟨_, rfl, h⟩
      · wp_walk using q1
        exact ⟨_, rfl, h⟩
    · wp_walk using q1
      exact ⟨_, rfl, h⟩
theorem enum_beginsA {prog : Program} {w : World} {A : Around} {E : Value → Shared → Prop} {s : Shared} {v : Value} {o : Obj} {H : Heap → Prop} {Q : Value → Shared → Prop} (B : Begins v o H) (h1 : H s.heap)
    (h : ∀ h', IsEnum h' (s.heap.objs.size + 1) s.heap.objs.size 0 .none → h'.get? s.heap.objs.size = some o → h'.objs.size = s.heap.objs.size + 2 →
      (∀ b o, s.heap.get? b = some o → h'.get? b = some o) → Q (.ref (s.heap.objs.size + 1)) { s with heap := h' }) :
    wpAny (model prog w) A (call (.type "enumerate") [v]) Q E s := by
  refine callType_new F.called_enumerate (by decide) (F.typeCall_enumerate_1 _) (F.newCall_enumerate_1 _) (fun obj => F.args_object_init_2 obj _) F.entry_enumerate_new
    (meets_enumerate_newA B) ⟨h1, ?_⟩
  have hz : (s.heap.push o).objs.size = s.heap.objs.size + 1 := Heap.size_push ..
  show _ ∧ _
  rw [hz]
  have he : IsEnum ((s.heap.push o).push { cls := .type "enumerate", data := .fields #[.none, .bool false, .ref s.heap.objs.size, rawInt 0, .none, .none] }) (s.heap.objs.size + 1) s.heap.objs.size 0 .none := by
    have := Heap.get?_push_size (s.heap.push o) (o := { cls := .type "enumerate", data := .fields #[.none, .bool false, .ref s.heap.objs.size, rawInt 0, .none, .none] }) rfl
    rw [hz] at this; exact this
  refine ⟨⟨_, he, rfl⟩, h _ he (Heap.get?_push_of_some _ (Heap.get?_push_size _ B.free)) (by rw [Heap.size_push, hz]) fun b o x => Heap.get?_push_of_some _ (Heap.get?_push_of_some _ x)⟩

/-! ### the iterators begin -/
section
variable {X : Cx}
def iZipS (K : PySem.W.Frag) (ta : TA) : TI := fun σ H R => ta σ H fun vs H1 => ∃ c d xs ys, vs = [.ref (Src.ad c), .ref (Src.ad d)] ∧ c.Sq K H1 xs ∧ d.Sq K H1 ys ∧ R (ItzS K c d) H1
theorem pi_zipS {e e2 : Expr} {ta : TA} {p pos tpos : Pos} {elts : List Expr} {kk : Nat} (hg : Gl X "zip") (hm : X.mg "zip" = none) (ha : PA X [e, e2] ta)
    (hs : starEach [e, e2] X.env = (false, eval e X.env) :: starEach [e2] X.env) (hpl : (backTo pos (starEach [e2] X.env)).any (·.1) = false) :
    PI X (.Tuple elts kk tpos) (.Call (.Name "zip" p) [e, e2] [] pos) (iZipS X.K ta) := by
  refine ⟨fun pins s σ H R I h => ?_⟩
  refine Call_ (ld_blt I hg hm PyProof.Rows.boot_zip (PyProof.Rows.callWith_type1 (thn (ha.run pos pins s σ H _ I h) fun us s1 ⟨vs, H1, I1, r1, q1⟩ => ?_) hs hpl))
  obtain ⟨c, d, xs, ys, ex, hc, hd, q⟩ := q1
  subst ex
  cases r1 with
  | cons r rr =>
    cases rr with
    | cons r' rr =>
      cases rr
      cases r
      cases r'
      obtain ⟨its, rv, p1, _, l1⟩ := Src.read I1 hc
      obtain ⟨its2, rv2, p2, _, l2⟩ := Src.read I1 hd
      refine zip_begins2 (Src.begins c its.toArray) (Src.begins d its2.toArray) p1 p2 fun h' hz hTI hTO h1 h2 hsz hk => wpAny_pyIter_zip hz ?_
      have I2 : L2.Inv X pins σ H1 { s1 with heap := h' } := I1.kept (t' := s1.toks) hk
      refine ⟨s1.heap.objs.size + 4, [s1.heap.objs.size + 4, s1.heap.objs.size + 2, s1.heap.objs.size + 3, s1.heap.objs.size, s1.heap.objs.size + 1], _, _, H1, rfl, I2, turn_zipS ⟨rfl, rfl, rfl, rfl, rfl, l1, l2⟩, ⟨hz, hTI, ⟨_, _, hTO⟩, c.first h1, d.first h2⟩, fun b hcm => ?_, q⟩
      have e' : b = s1.heap.objs.size + 4 ∨ b = s1.heap.objs.size + 2 ∨ b = s1.heap.objs.size + 3 ∨ b = s1.heap.objs.size ∨ b = s1.heap.objs.size + 1 := by simpa using hcm
      have hle : s1.heap.objs.size ≤ b := by
        rcases e' with z | z | z | z | z
        · rw [z]; exact Nat.le_add_right _ _
        · rw [z]; exact Nat.le_add_right _ _
        · rw [z]; exact Nat.le_add_right _ _
        · rw [z]; exact Nat.le_refl _
        · rw [z]; exact Nat.le_add_right _ _
      exact I1.fpOk hle (I1.hok.fresh hle)
def iEnumS (K : PySem.W.Frag) (ta : TA) : TI := fun σ H R => ta σ H fun vs H1 => ∃ c xs, vs = [.ref (Src.ad c)] ∧ c.Sq K H1 xs ∧ R (IteS K c) H1
theorem pi_enumS {e : Expr} {ta : TA} {p pos tpos : Pos} {elts : List Expr} {kk : Nat} (hg : Gl X "enumerate") (hm : X.mg "enumerate" = none) (ha : PA X [e] ta) (hs : starEach [e] X.env = [(false, eval e X.env)]) :
    PI X (.Tuple elts kk tpos) (.Call (.Name "enumerate" p) [e] [] pos) (iEnumS X.K ta) := by
  refine ⟨fun pins s σ H R I h => ?_⟩
  refine Call_ (ld_blt I hg hm boot_enumerate (PyProof.Rows.callWith_type1 (thn (ha.run pos pins s σ H _ I h) fun us s1 ⟨vs, H1, I1, r1, q1⟩ => ?_) hs rfl))
  obtain ⟨c, xs, ex, hq, q⟩ := q1
  subst ex
  cases r1 with
  | cons r rr =>
    cases rr
    cases r
    obtain ⟨its, rv, p', _, l1⟩ := Src.read I1 hq
    refine enum_beginsA (Src.begins c its.toArray) p' fun h' he hit hsz hk => wpAny_pyIter_enum he ?_
    have I2 : L2.Inv X pins σ H1 { s1 with heap := h' } := I1.kept (t' := s1.toks) hk
    refine ⟨s1.heap.objs.size + 1, [s1.heap.objs.size + 1, s1.heap.objs.size], _, _, H1, rfl, I2, turn_enumS rfl l1, ⟨⟨.none, he⟩, c.first hit⟩, fun b hb => ?_, q⟩
    have e' : b = s1.heap.objs.size + 1 ∨ b = s1.heap.objs.size := by simpa using hb
    have hle : s1.heap.objs.size ≤ b := by
      rcases e' with z | z
      · rw [z]; exact Nat.le_add_right _ _
      · rw [z]; exact Nat.le_refl _
    exact I1.fpOk hle (I1.hok.fresh hle)
/-- a list or a tuple by itself -/
def itS (K : PySem.W.Frag) : Src → L2.It
  | .l a => Itl K a
  | .t a => Itt K a
def iSrc (K : PySem.W.Frag) (tl : TE) : TI := fun σ H R => tl σ H fun x H1 => ∃ c : Src, x = .ref c.ad ∧ (∃ xs, c.Sq K H1 xs) ∧ R (itS K c) H1
theorem pi_src {tg l : Expr} {tl : TE} (hl : PE X l tl) : PI X tg l (iSrc X.K tl) := by
  refine ⟨fun pins s σ H R I h => ?_⟩
  refine thn (hl.run pins s σ H _ I h) fun u s1 ⟨x, H1, I1, r1, c, ex, ⟨xs, hc⟩, q⟩ => ?_
  subst ex
  cases r1
  have fp : ∀ b ∈ [s1.heap.objs.size], FpOk X pins H1 b := fun b hb => by
    have e : b = s1.heap.objs.size := by simpa using hb
    subst e
    exact I1.fpOk (Nat.le_refl _) (I1.hok.fresh (Nat.le_refl _))
  cases c with
  | l a =>
    obtain ⟨its, rv, p, hz⟩ := I1.list hc
    refine wpAny_pyIter_list p.isList ?_
    exact ⟨s1.heap.objs.size, [s1.heap.objs.size], _, _, H1, rfl, I1.kept (t' := s1.toks) fun b o e => Heap.get?_push_of_some _ e, turn_list a _, ⟨_, Heap.get?_push_size _ rfl, rfl, rfl⟩, fp, q⟩
  | t a =>
    obtain ⟨its, rv, p, hz⟩ := I1.tuple hc
    refine wpAny_pyIter_tuple (show s1.heap.IsTuple a its.toArray from p) ?_
    exact ⟨s1.heap.objs.size, [s1.heap.objs.size], _, _, H1, rfl, I1.kept (t' := s1.toks) fun b o e => Heap.get?_push_of_some _ e, turn_tuple a _, ⟨_, Heap.get?_push_size _ rfl, rfl, rfl⟩, fp, q⟩
end
end Rz

/-! RzS5 -/
set_option Elab.async false
set_option linter.all false
set_option maxRecDepth 100000
set_option maxHeartbeats 4000000
namespace Rz
open PySem PySem.Spec PyProof.Rows L2

/-! ### later: what is bad may have been rewritten -/
structure Later (H : Hp) (B : Bad) (Γ : List Addr) (H' : Hp) (B' : Bad) (Γ' : List Addr) : Prop where
  ext : ∀ b o, H b = some o → ¬ B b → H' b = some o
  bnew : ∀ b, B' b → B b ∨ H b = none
  gpre : ∀ (n : Nat) (a : Addr), Γ[n]? = some a → Γ'[n]? = some a
  live : ∀ b, H b ≠ none → H' b ≠ none
section
variable {S : Inf} {H H1 H' : Hp} {B B1 B' : Bad} {Γ Γ1 Γ' : List Addr}
theorem Step.later (ok : BadOk H B Γ) (s : Step H B Γ H' B' Γ') : Later H B Γ H' B' Γ' := ⟨fun b o e n => s.ext b o e fun z => n (ok.cell _ z), s.bnew, s.gpre, s.live⟩
theorem Later.refl : Later H B Γ H B Γ := ⟨fun _ _ e _ => e, fun _ b => .inl b, fun _ _ e => e, fun _ h => h⟩
theorem Later.trans (a : Later H B Γ H1 B1 Γ1) (b : Later H1 B1 Γ1 H' B' Γ') : Later H B Γ H' B' Γ' where
  ext := fun c o e n => b.ext c o (a.ext c o e n) fun z => by
    rcases a.bnew c z with z | z
    · exact n z
    · rw [e] at z; cases z
  bnew := fun c h => by
    rcases b.bnew c h with z | z
    · exact a.bnew c z
    · refine .inr ?_
      cases e : H c with
      | none => rfl
      | some o => exact absurd z (a.live c (by rw [e]; exact fun z => nomatch z))
  gpre := fun n c e => b.gpre n c (a.gpre n c e)
  live := fun c h => b.live c (a.live c h)
theorem Same.later (s : L2.Same H H') : Later H B Γ H' B Γ := ⟨fun b o e _ => s b o e, fun _ b => .inl b, fun _ _ e => e, fun b n z => n (s.free z)⟩
theorem seqT_later {a : Addr} {vs : List V} (ok : BadOk H B Γ) (l : Later H B Γ H' B' Γ') (h : SqT S.K H a vs) : SqT S.K H' a vs := by
  rcases h with (h | ⟨o, h⟩) | h
  · exact .inl (.inl (l.ext _ _ h (ok.notT h)))
  · exact .inl (.inr ⟨o, l.ext _ _ h (ok.notF h)⟩)
  · exact .inr h
mutual
theorem Rep.later (ok : BadOk H B Γ) (l : Later H B Γ H' B' Γ') : ∀ {v : V} {d : D}, Rep S H B Γ v d → Rep S H' B' Γ' v d
  | _, _, .non => .non
  | _, _, .bl b => .bl b
  | _, _, .int i => .int i
  | _, _, .str s => .str s
  | _, _, .tup h r => .tup (seqT_later ok l h) (Reps.later ok l r)
  | _, _, .lst h nb r => .lst (l.ext _ _ h nb) (fun z => (l.bnew _ z).elim nb (by rw [h]; exact fun z => nomatch z)) (Reps.later ok l r)
  | _, _, .scr h r => .scr (h.elim (fun ⟨o, h⟩ => .inl ⟨o, l.ext _ _ h (ok.notF h)⟩) .inr) (Reps.later ok l r)
  | _, _, .dic h nb e r => .dic (l.ext _ _ h nb) (fun z => (l.bnew _ z).elim nb (by rw [h]; exact fun z => nomatch z)) e (Reps.later ok l r)
  | _, _, .fn f => .fn f
  | _, _, .mref h => .mref (l.gpre _ _ h)
theorem Reps.later (ok : BadOk H B Γ) (l : Later H B Γ H' B' Γ') : ∀ {vs : List V} {ds : List D}, Reps S H B Γ vs ds → Reps S H' B' Γ' vs ds
  | _, _, .nil => .nil
  | _, _, .cons h r => .cons (Rep.later ok l h) (Reps.later ok l r)
end
end

/-! ### slots -/
theorem getS_setS : ∀ (env : Env) (i j : Nat) (s : Sl), getS (setS env i s) j = if i = j ∧ i < env.length then s else getS env j
  | [], i, j, s => by simp [setS, getS]
  | a :: r, 0, 0, s => by simp [setS, getS]
  | a :: r, 0, j + 1, s => by simp [setS, getS]
  | a :: r, i + 1, 0, s => by simp [setS, getS]
  | a :: r, i + 1, j + 1, s => by
    have := getS_setS r i j s
    simp only [setS, getS, List.length_cons, Nat.add_right_cancel_iff, Nat.add_lt_add_iff_right]
    exact this
theorem setS_len : ∀ (env : Env) (i : Nat) (s : Sl), (setS env i s).length = env.length
  | [], _, _ => rfl
  | _ :: r, 0, _ => rfl
  | _ :: r, i + 1, s => by simp [setS, setS_len r i s]
theorem set_get {α : Type} (σ : List α) (i j : Nat) (x : α) : (σ.set i x)[j]? = if i = j ∧ i < σ.length then some x else σ[j]? := by
  rw [List.getElem?_set]
  by_cases h : i = j
  · subst h
    by_cases h2 : i < σ.length
    · simp [h2]
    · simp [h2]
  · simp [h]
section
variable {S : Inf} {H H' H0 : Hp} {B B' : Bad} {Γ Γ' : List Addr} {g g' : Gs} {σ : L2.St} {env : Env}
theorem Slots.setP {i : Nat} {v : V} {d : D} (h : Slots S H B Γ H0 σ env) (r : Rep S H B Γ v d) : Slots S H B Γ H0 (σ.set i (some v)) (setS env i (.p d)) where
  len := by rw [List.length_set, setS_len]; exact h.len
  at_ := fun j => by
    rw [set_get, getS_setS, h.len]
    by_cases c : i = j ∧ i < env.length
    · rw [if_pos c, if_pos c]; exact ⟨v, rfl, r⟩
    · rw [if_neg c, if_neg c]; exact h.at_ j
  apart := fun j k a ne hj hk e1 e2 => by
    rw [getS_setS] at hj hk
    by_cases c : i = j ∧ i < env.length
    · rw [if_pos c] at hj; exact hj
    · by_cases c2 : i = k ∧ i < env.length
      · rw [if_pos c2] at hk; exact hk
      · rw [if_neg c] at hj
        rw [if_neg c2] at hk
        rw [set_get, h.len, if_neg c] at e1
        rw [set_get, h.len, if_neg c2] at e2
        exact h.apart j k a ne hj hk e1 e2
theorem Slots.setU {i : Nat} {x : Option V} (h : Slots S H B Γ H0 σ env) : Slots S H B Γ H0 (σ.set i x) (setS env i .u) where
  len := by rw [List.length_set, setS_len]; exact h.len
  at_ := fun j => by
    rw [set_get, getS_setS, h.len]
    by_cases c : i = j ∧ i < env.length
    · rw [if_pos c, if_pos c]; trivial
    · rw [if_neg c, if_neg c]; exact h.at_ j
  apart := fun j k a ne hj hk e1 e2 => by
    rw [getS_setS] at hj hk
    by_cases c : i = j ∧ i < env.length
    · rw [if_pos c] at hj; exact hj
    · by_cases c2 : i = k ∧ i < env.length
      · rw [if_pos c2] at hk; exact hk
      · rw [if_neg c] at hj
        rw [if_neg c2] at hk
        rw [set_get, h.len, if_neg c] at e1
        rw [set_get, h.len, if_neg c2] at e2
        exact h.apart j k a ne hj hk e1 e2
theorem Slots.wipe (h : Slots S H B Γ H0 σ env) : ∀ is : List Nat, Slots S H B Γ H0 (L2.wipe σ is) (wipeS is env)
  | [] => h
  | i :: is => (h.wipe is).setU
/-- a new own list or dict at slot i -/
theorem Slots.setO {i : Nat} {a : Addr} {d : D} (h : Slots S H B Γ H0 σ env) (b : B a) (n : a ∉ Γ) (z : H0 a = none) (w : OwnAt S H B Γ a d)
    (ap : ∀ j, isO (getS env j) → σ[j]? ≠ some (some (.ref a))) : Slots S H B Γ H0 (σ.set i (some (.ref a))) (setS env i (.o d)) where
  len := by rw [List.length_set, setS_len]; exact h.len
  at_ := fun j => by
    rw [set_get, getS_setS, h.len]
    by_cases c : i = j ∧ i < env.length
    · rw [if_pos c, if_pos c]; exact ⟨a, rfl, b, n, z, w⟩
    · rw [if_neg c, if_neg c]; exact h.at_ j
  apart := fun j k x ne hj hk e1 e2 => by
    rw [getS_setS] at hj hk
    rw [set_get, h.len] at e1 e2
    by_cases c : i = j ∧ i < env.length
    · by_cases c2 : i = k ∧ i < env.length
      · exact ne (c.1.symm.trans c2.1)
      · rw [if_pos c] at e1
        rw [if_neg c2] at hk e2
        injection e1 with e1; injection e1 with e1; injection e1 with e1
        subst e1
        exact ap k hk e2
    · by_cases c2 : i = k ∧ i < env.length
      · rw [if_pos c2] at e2
        rw [if_neg c] at hj e1
        injection e2 with e2; injection e2 with e2; injection e2 with e2
        subst e2
        exact ap j hj e1
      · rw [if_neg c] at hj e1
        rw [if_neg c2] at hk e2
        exact h.apart j k x ne hj hk e1 e2
end

/-! ### targets -/
theorem wipe_get (σ : L2.St) (j : Nat) : ∀ vs : List Nat, (L2.wipe σ vs)[j]? = if j ∈ vs ∧ j < σ.length then some none else σ[j]?
  | [] => by simp [L2.wipe]
  | v :: vs => by
    unfold L2.wipe
    rw [set_get, wipe_get σ j vs, L2.wipe_length]
    by_cases h : v = j
    · subst h
      by_cases h2 : v < σ.length
      · simp [h2]
      · simp [h2]
    · have h' : ¬ j = v := fun e => h e.symm
      simp only [h, false_and, if_false, List.mem_cons, h', false_or]
theorem wipe_app {σ σ1 σ2 : L2.St} {as bs : List Nat} (h1 : L2.wipe σ1 as = L2.wipe σ as) (h2 : L2.wipe σ2 bs = L2.wipe σ1 bs) : L2.wipe σ2 (as ++ bs) = L2.wipe σ (as ++ bs) := by
  have l1 : σ1.length = σ.length := by rw [← L2.wipe_length σ1 as, h1, L2.wipe_length]
  have l2 : σ2.length = σ1.length := by rw [← L2.wipe_length σ2 bs, h2, L2.wipe_length]
  apply List.ext_getElem?
  intro j
  have e1 := congrArg (fun l : L2.St => l[j]?) h1
  have e2 := congrArg (fun l : L2.St => l[j]?) h2
  simp only [wipe_get] at e1 e2 ⊢
  rw [l2, l1] at *
  by_cases hj : j < σ.length
  · by_cases ha : j ∈ as
    · simp [ha, hj]
    · by_cases hb : j ∈ bs
      · simp [hb, hj]
      · simp only [ha, hb, hj, List.mem_append, or_self, false_and, if_false] at e1 e2 ⊢
        rw [e2, e1]
  · simp only [hj, and_false, if_false] at e1 e2 ⊢
    rw [e2, e1]
mutual
def gOf (K : PySem.W.Frag) : Tg → TG
  | .nm i => gName i
  | .tp ts => gTup K ts.length (gsOf K ts)
def gsOf (K : PySem.W.Frag) : List Tg → TGs
  | [] => gNil
  | t :: ts => gCons (gOf K t) (gsOf K ts)
end
section
variable {S : Inf} {H H0 : Hp} {B : Bad} {Γ : List Addr}
mutual
theorem gOf_ok : ∀ (t : Tg) (d : D) (env env' : Env) (σ : L2.St) (v : V) (Q : L2.St → Hp → Prop), bindT t d env = some env' → Slots S H B Γ H0 σ env → Rep S H B Γ v d →
    (∀ σ', Slots S H B Γ H0 σ' env' → L2.wipe σ' t.ix = L2.wipe σ t.ix → Q σ' H) → gOf S.K t v σ H Q
  | .nm i, d, env, env', σ, v, Q, e, sl, r, k => by
    injection e with e; subst e
    exact k _ (sl.setP r) (by simp [Tg.ix, L2.wipe])
  | .tp ts, d, env, env', σ, v, Q, e, sl, r, k => by
    cases r with
    | tup h q =>
      have e : bindTs ts _ env = some env' := e
      refine ⟨_, _, rfl, h, ?_, gsOf_ok ts _ env env' σ _ Q e sl q k⟩
      rw [q.length]
      exact (bindTs_len ts _ env env' e).symm
    | _ => cases e
theorem gsOf_ok : ∀ (ts : List Tg) (ds : List D) (env env' : Env) (σ : L2.St) (vs : List V) (Q : L2.St → Hp → Prop), bindTs ts ds env = some env' → Slots S H B Γ H0 σ env → Reps S H B Γ vs ds →
    (∀ σ', Slots S H B Γ H0 σ' env' → L2.wipe σ' (Tg.ixs ts) = L2.wipe σ (Tg.ixs ts) → Q σ' H) → gsOf S.K ts vs σ H Q
  | [], ds, env, env', σ, vs, Q, e, sl, r, k => by
    cases r with
    | nil => injection e with e; subst e; exact ⟨rfl, k σ sl rfl⟩
    | cons _ _ => cases e
  | t :: ts, ds, env, env', σ, vs, Q, e, sl, r, k => by
    cases r with
    | nil => cases e
    | cons h q =>
      rename_i v vs d ds
      have e : (match bindT t d env with | some env1 => bindTs ts ds env1 | none => none) = some env' := e
      cases e1 : bindT t d env with
      | none => rw [e1] at e; cases e
      | some env1 =>
        rw [e1] at e
        refine ⟨v, vs, rfl, gOf_ok t d env env1 σ v _ e1 sl h fun σ1 sl1 w1 => ?_⟩
        refine gsOf_ok ts ds env1 env' σ1 vs Q e sl1 q fun σ2 sl2 w2 => k σ2 sl2 ?_
        exact wipe_app w1 w2
theorem bindTs_len : ∀ (ts : List Tg) (ds : List D) (env env' : Env), bindTs ts ds env = some env' → ts.length = ds.length
  | [], [], _, _, _ => rfl
  | [], _ :: _, _, _, e => by cases e
  | _ :: _, [], _, _, e => by cases e
  | t :: ts, d :: ds, env, env', e => by
    have e : (match bindT t d env with | some env1 => bindTs ts ds env1 | none => none) = some env' := e
    cases e1 : bindT t d env with
    | none => rw [e1] at e; cases e
    | some env1 =>
      rw [e1] at e
      rw [List.length_cons, List.length_cons, bindTs_len ts ds env1 env' e]
end
end

/-! ### what is walked, over data -/
structure ItOk (S : Inf) (J : L2.It) (H : Hp) (B : Bad) (Γ : List Addr) (xs : List D) : Prop where
  go : ∀ i H' B' Γ', Later H B Γ H' B' Γ' → i < xs.length → J.go i H'
  stop : ∀ H' B' Γ', Later H B Γ H' B' Γ' → J.stop xs.length H'
  yld : ∀ i H' B' Γ' x H'' d, Later H B Γ H' B' Γ' → BadOk H' B' Γ' → J.yld i H' x H'' → xs[i]? = some d → L2.Same H' H'' ∧ Rep S H'' B' Γ' x d
section
variable {S : Inf} {H : Hp} {B : Bad} {Γ : List Addr}
/-- a list or a tuple as a source -/
theorem src_of {v : V} {d : D} {xs : List D} (ok : BadOk H B Γ) (r : Rep S H B Γ v d) (e : seqOf d = some xs) :
    ∃ c : Src, v = .ref c.ad ∧ ∃ vs, Reps S H B Γ vs xs ∧ ∀ H' B' Γ', Later H B Γ H' B' Γ' → c.Sq S.K H' vs := by
  cases r with
  | tup h q =>
    injection e with e; subst e
    exact ⟨.t _, rfl, _, q, fun H' B' Γ' l => seqT_later ok l h⟩
  | lst h nb q =>
    injection e with e; subst e
    exact ⟨.l _, rfl, _, q, fun H' B' Γ' l => SqL.of (l.ext _ _ h nb)⟩
  | _ => cases e
theorem itok_src {c : Src} {vs : List V} {xs : List D} (ok : BadOk H B Γ) (q : Reps S H B Γ vs xs) (hs : ∀ H' B' Γ', Later H B Γ H' B' Γ' → c.Sq S.K H' vs) : ItOk S (itS S.K c) H B Γ xs := by
  cases c with
  | l a =>
    refine ⟨fun i H' B' Γ' l hi => ?_, fun H' B' Γ' l => ⟨vs, hs _ _ _ l, by rw [q.length]; exact Nat.le_refl _⟩, fun i H' B' Γ' x H'' d l ok' y e => ?_⟩
    · obtain ⟨v, e, _⟩ := q.get (i := i) (d := xs[i]) (by simp [hi])
      exact ⟨vs, v, hs _ _ _ l, e⟩
    · obtain ⟨e1, e2⟩ := y
      subst e1
      obtain ⟨v, e3, r⟩ := (q.later ok l).get e
      have := e2 vs (hs _ _ _ l)
      rw [e3] at this
      cases this
      exact ⟨L2.Same.refl _, r⟩
  | t a =>
    refine ⟨fun i H' B' Γ' l hi => ?_, fun H' B' Γ' l => ⟨vs, hs _ _ _ l, by rw [q.length]; exact Nat.le_refl _⟩, fun i H' B' Γ' x H'' d l ok' y e => ?_⟩
    · obtain ⟨v, e, _⟩ := q.get (i := i) (d := xs[i]) (by simp [hi])
      exact ⟨vs, v, hs _ _ _ l, e⟩
    · obtain ⟨e1, e2⟩ := y
      subst e1
      obtain ⟨v, e3, r⟩ := (q.later ok l).get e
      have := e2 vs (hs _ _ _ l)
      rw [e3] at this
      cases this
      exact ⟨L2.Same.refl _, r⟩
theorem itok_rng (lo : Int) (n : Nat) : ItOk S (Itr lo n) H B Γ (rangeI lo n) := by
  have hl : (rangeI lo n).length = n := by simp [rangeI]
  refine ⟨fun i H' B' Γ' l hi => ?_, fun H' B' Γ' l => ?_, fun i H' B' Γ' x H'' d l ok' y e => ?_⟩
  · rw [hl] at hi; exact hi
  · rw [hl]; exact Nat.le_refl _
  · obtain ⟨e1, e2⟩ := y
    subst e1 e2
    have : d = .int (lo + (i : Nat)) := by
      unfold rangeI at e
      rw [List.getElem?_map] at e
      cases h : (List.range n)[i]? with
      | none => rw [h] at e; cases e
      | some k =>
        rw [h] at e
        have hk : k = i := by
          have := List.getElem?_eq_some_iff.mp h
          obtain ⟨h1, h2⟩ := this
          simp at h2
          exact h2.symm
        subst hk
        exact (Option.some.inj e).symm
    subst this
    exact ⟨L2.Same.refl _, .int _⟩
theorem itok_zip {c d : Src} {vs ws : List V} {xs ys : List D} (ok : BadOk H B Γ) (q : Reps S H B Γ vs xs) (hs : ∀ H' B' Γ', Later H B Γ H' B' Γ' → c.Sq S.K H' vs) (q2 : Reps S H B Γ ws ys) (hs2 : ∀ H' B' Γ', Later H B Γ H' B' Γ' → d.Sq S.K H' ws) :
    ItOk S (ItzS S.K c d) H B Γ ((xs.zip ys).map fun p => .tup [p.1, p.2]) := by
  have hl : ((xs.zip ys).map fun p => D.tup [p.1, p.2]).length = min xs.length ys.length := by simp [List.length_zip]
  refine ⟨fun i H' B' Γ' l hi => ?_, fun H' B' Γ' l => ?_, fun i H' B' Γ' x H'' e l ok' y he => ?_⟩
  · rw [hl] at hi
    obtain ⟨v, e, _⟩ := q.get (i := i) (d := xs[i]'(by omega)) (by rw [List.getElem?_eq_getElem])
    obtain ⟨v2, e2, _⟩ := q2.get (i := i) (d := ys[i]'(by omega)) (by rw [List.getElem?_eq_getElem])
    exact ⟨vs, ws, v, v2, hs _ _ _ l, hs2 _ _ _ l, e, e2⟩
  · rw [hl]
    exact ⟨vs, ws, hs _ _ _ l, hs2 _ _ _ l, by rw [q.length, q2.length]⟩
  · obtain ⟨T, a, b, e1, e2, e3, ea, eb⟩ := y
    subst e1 e3
    rw [List.getElem?_map] at he
    cases hz : (xs.zip ys)[i]? with
    | none => rw [hz] at he; cases he
    | some p =>
      rw [hz] at he
      have he : D.tup [p.1, p.2] = e := Option.some.inj he
      subst he
      rw [List.getElem?_zip_eq_some] at hz
      obtain ⟨v, f1, r1⟩ := (q.later ok l).get hz.1
      obtain ⟨v2, f2, r2⟩ := (q2.later ok l).get hz.2
      have g1 := ea vs (hs _ _ _ l)
      have g2 := eb ws (hs2 _ _ _ l)
      rw [f1] at g1; rw [f2] at g2
      cases g1; cases g2
      exact ⟨same_laid e2, new_tup ok' e2 (.cons r1 (.cons r2 .nil))⟩
theorem itok_enum {c : Src} {vs : List V} {xs : List D} (ok : BadOk H B Γ) (q : Reps S H B Γ vs xs) (hs : ∀ H' B' Γ', Later H B Γ H' B' Γ' → c.Sq S.K H' vs) :
    ItOk S (IteS S.K c) H B Γ ((xs.zip (List.range xs.length)).map fun p => .tup [.int (p.2 : Nat), p.1]) := by
  have hl : ((xs.zip (List.range xs.length)).map fun p => D.tup [.int (p.2 : Nat), p.1]).length = xs.length := by simp [List.length_zip]
  refine ⟨fun i H' B' Γ' l hi => ?_, fun H' B' Γ' l => ?_, fun i H' B' Γ' x H'' e l ok' y he => ?_⟩
  · rw [hl] at hi
    obtain ⟨v, e, _⟩ := q.get (i := i) (d := xs[i]'(by omega)) (by rw [List.getElem?_eq_getElem])
    exact ⟨vs, v, hs _ _ _ l, e⟩
  · rw [hl]
    exact ⟨vs, hs _ _ _ l, by rw [q.length]⟩
  · obtain ⟨T, a, e1, e2, e3, ea⟩ := y
    subst e1 e3
    rw [List.getElem?_map] at he
    cases hz : (xs.zip (List.range xs.length))[i]? with
    | none => rw [hz] at he; cases he
    | some p =>
      rw [hz] at he
      have he : D.tup [.int (p.2 : Nat), p.1] = e := Option.some.inj he
      subst he
      rw [List.getElem?_zip_eq_some] at hz
      obtain ⟨v, f1, r1⟩ := (q.later ok l).get hz.1
      have hk : p.2 = i := by
        obtain ⟨h1, h2⟩ := List.getElem?_eq_some_iff.mp hz.2
        simp at h2
        exact h2.symm
      have g1 := ea vs (hs _ _ _ l)
      rw [f1] at g1
      cases g1
      rw [hk]
      exact ⟨same_laid e2, new_tup ok' e2 (.cons (.int _) (.cons r1 .nil))⟩
end

/-- the items of an iterable, and the iterator -/
def tIt (S : Inf) (H0 : Hp) (W : WX) (C : Nat → List D → Gs → R D) (k : ItK) (es : List Ex) : TI := fun σ H R => ∃ env g B Γ, Slots S H B Γ H0 σ env ∧ Cells S H g B Γ ∧
  Out S σ W H B Γ (evEs C es env g) fun ds g' H' B' Γ' => ∃ xs, items k ds = some xs ∧ ∀ J, ItOk S J H' B' Γ' xs → R J H'
theorem PI.imp {X : Cx} {tg pe : Expr} {t t' : TI} (h : PI X tg pe t) (hi : ∀ σ H R, t' σ H R → t σ H R) : PI X tg pe t' := ⟨fun pins s σ H R I q => h.run pins s σ H R I (hi _ _ _ q)⟩
section
variable {S : Inf} {H0 : Hp} {W : WX} {C : Nat → List D → Gs → R D} {X : Cx}
/-- one argument -/
theorem tIt1 {k : ItK} {e : Ex} {σ : L2.St} {H : Hp} {R : L2.It → Hp → Prop} {K : VK} (h : tIt S H0 W C k [e] σ H R)
    (hk : ∀ d g1 H1 B1 Γ1 v xs, Cells S H1 g1 B1 Γ1 → Rep S H1 B1 Γ1 v d → items k [d] = some xs → (∀ J, ItOk S J H1 B1 Γ1 xs → R J H1) → K v H1) : tD S H0 W C e σ H K := by
  obtain ⟨env, g, B, Γ, sl, ce, h⟩ := h
  refine tD_bind sl ce (Q := fun ds g' H' B' Γ' => ∃ xs, items k ds = some xs ∧ ∀ J, ItOk S J H' B' Γ' xs → R J H') (f := fun d g => (evEs C [] env g).bind fun ds g => .ok (d :: ds) g) h fun d g1 H1 B1 Γ1 v sl1 ce1 s1 r _ o => ?_
  obtain ⟨xs, e1, q⟩ := o H1 B1 Γ1 ce1 .refl
  exact hk d g1 H1 B1 Γ1 v xs ce1 r e1 q
theorem tItA {k : ItK} {es : List Ex} {σ : L2.St} {H : Hp} {R : L2.It → Hp → Prop} {K : List V → Hp → Prop} (h : tIt S H0 W C k es σ H R)
    (hk : ∀ ds g1 H1 B1 Γ1 vs xs, Cells S H1 g1 B1 Γ1 → Reps S H1 B1 Γ1 vs ds → items k ds = some xs → (∀ J, ItOk S J H1 B1 Γ1 xs → R J H1) → K vs H1) : tDs S H0 W C es σ H K := by
  obtain ⟨env, g, B, Γ, sl, ce, h⟩ := h
  exact ⟨env, g, B, Γ, sl, ce, h.imp fun ds g1 H1 B1 Γ1 ce1 s1 ⟨xs, e1, q⟩ vs r => hk ds g1 H1 B1 Γ1 vs xs ce1 r e1 q⟩
theorem iok_seq (hK : X.K = S.K) {e : Ex} {tg pe : Expr} (h : PE X pe (tD S H0 W C e)) : PI X tg pe (tIt S H0 W C .seq [e]) := by
  refine PI.imp (pi_src h) fun σ H R hh => ?_
  refine tIt1 hh fun d g1 H1 B1 Γ1 v xs ce r ei q => ?_
  have es : seqOf d = some xs := by cases d <;> first | exact ei | cases ei
  obtain ⟨c, ev, vs, rs, hs⟩ := src_of ce.ok r es
  rw [hK]
  exact ⟨c, ev, ⟨vs, hs _ _ _ .refl⟩, q _ (itok_src ce.ok rs hs)⟩
theorem iok_rng {e : Ex} {tg pe : Expr} {p pos : Pos} (hg : Gl X "range") (hm : X.mg "range" = none) (h : PA X [pe] (tDs S H0 W C [e])) (hs : starEach [pe] X.env = [(false, eval pe X.env)]) :
    PI X tg (.Call (.Name "range" p) [pe] [] pos) (tIt S H0 W C .rng [e]) := by
  refine PI.imp (pi_range1 hg hm h hs) fun σ H R hh => ?_
  refine tItA hh fun ds g1 H1 B1 Γ1 vs xs ce r ei q => ?_
  cases r with
  | nil => cases ei
  | cons r1 r2 =>
    cases r2 with
    | cons _ _ => cases ei
    | nil =>
      cases r1 with
      | int n =>
        obtain ⟨h1, h2⟩ := ite_some ei
        subst h2
        obtain ⟨b1, b2⟩ := shortI_ok h1
        exact ⟨n, rfl, b1, b2, q _ (itok_rng 0 n.toNat)⟩
      | _ => cases ei
theorem iok_rng2 {e e2 : Ex} {tg pe pe2 : Expr} {p pos : Pos} (hg : Gl X "range") (hm : X.mg "range" = none) (h : PA X [pe, pe2] (tDs S H0 W C [e, e2]))
    (hs : starEach [pe, pe2] X.env = [(false, eval pe X.env), (false, eval pe2 X.env)]) (hs2 : starEach [pe2] X.env = [(false, eval pe2 X.env)]) :
    PI X tg (.Call (.Name "range" p) [pe, pe2] [] pos) (tIt S H0 W C .rng2 [e, e2]) := by
  refine PI.imp (pi_range2 hg hm h hs hs2) fun σ H R hh => ?_
  refine tItA hh fun ds g1 H1 B1 Γ1 vs xs ce r ei q => ?_
  cases r with
  | nil => cases ei
  | cons r1 r2 =>
    cases r2 with
    | nil => cases ei
    | cons r2 r3 =>
      cases r3 with
      | cons _ _ => cases ei
      | nil =>
        cases r1 with
        | int a =>
          cases r2 with
          | int b =>
            obtain ⟨h1, h2⟩ := ite_some ei
            subst h2
            rw [Bool.and_eq_true] at h1
            obtain ⟨b1, b2⟩ := shortI_ok h1.1
            obtain ⟨b3, b4⟩ := shortI_ok h1.2
            exact ⟨a, b, rfl, ⟨b1, b2, b3, b4⟩, q _ (itok_rng a (b - a).toNat)⟩
          | _ => cases ei
        | _ => cases ei
theorem iok_zip (hK : X.K = S.K) {e e2 : Ex} {pe pe2 : Expr} {p pos tpos : Pos} {elts : List Expr} {kk : Nat} (hg : Gl X "zip") (hm : X.mg "zip" = none) (h : PA X [pe, pe2] (tDs S H0 W C [e, e2]))
    (hs : starEach [pe, pe2] X.env = (false, eval pe X.env) :: starEach [pe2] X.env) (hpl : (backTo pos (starEach [pe2] X.env)).any (·.1) = false) :
    PI X (.Tuple elts kk tpos) (.Call (.Name "zip" p) [pe, pe2] [] pos) (tIt S H0 W C .zip [e, e2]) := by
  refine PI.imp (pi_zipS hg hm h hs hpl) fun σ H R hh => ?_
  refine tItA hh fun ds g1 H1 B1 Γ1 vs xs ce r ei q => ?_
  cases r with
  | nil => cases ei
  | cons r1 r2 =>
    cases r2 with
    | nil => cases ei
    | cons r2 r3 =>
      cases r3 with
      | cons _ _ => cases ei
      | nil =>
        rename_i d1 v2 d2
        have ei : (match seqOf d1, seqOf d2 with | some a, some b => some ((a.zip b).map fun p => D.tup [p.1, p.2]) | _, _ => none) = some xs := ei
        cases e1 : seqOf d1 with
        | none => rw [e1] at ei; cases ei
        | some a =>
          cases e2 : seqOf d2 with
          | none => rw [e1, e2] at ei; cases ei
          | some b =>
            rw [e1, e2] at ei
            have ei : ((a.zip b).map fun p => D.tup [p.1, p.2]) = xs := Option.some.inj ei
            subst ei
            obtain ⟨c, ev, vs, rs, hs⟩ := src_of ce.ok r1 e1
            obtain ⟨c2, ev2, vs2, rs2, hs2⟩ := src_of ce.ok r2 e2
            rw [hK]
            exact ⟨c, c2, vs, vs2, by rw [ev, ev2], hs _ _ _ .refl, hs2 _ _ _ .refl, q _ (itok_zip ce.ok rs hs rs2 hs2)⟩
theorem iok_enum (hK : X.K = S.K) {e : Ex} {pe : Expr} {p pos tpos : Pos} {elts : List Expr} {kk : Nat} (hg : Gl X "enumerate") (hm : X.mg "enumerate" = none) (h : PA X [pe] (tDs S H0 W C [e])) (hs : starEach [pe] X.env = [(false, eval pe X.env)]) :
    PI X (.Tuple elts kk tpos) (.Call (.Name "enumerate" p) [pe] [] pos) (tIt S H0 W C .enum [e]) := by
  refine PI.imp (pi_enumS hg hm h hs) fun σ H R hh => ?_
  refine tItA hh fun ds g1 H1 B1 Γ1 vs xs ce r ei q => ?_
  cases r with
  | nil => cases ei
  | cons r1 r2 =>
    cases r2 with
    | cons _ _ => cases ei
    | nil =>
      rename_i d1
      cases e1 : seqOf d1 with
      | none => simp only [items, e1] at ei; cases ei
      | some a =>
        simp only [items, e1] at ei
        have ei : ((a.zip (List.range a.length)).map fun p => D.tup [.int (p.2 : Nat), p.1]) = xs := Option.some.inj ei
        subst ei
        obtain ⟨c, ev, vs, rs, hs⟩ := src_of ce.ok r1 e1
        rw [hK]
        exact ⟨c, vs, by rw [ev], hs _ _ _ .refl, q _ (itok_enum ce.ok rs hs)⟩
end
end Rz

/-! RzS6 -/
set_option Elab.async false
set_option linter.all false
set_option maxRecDepth 100000
set_option maxHeartbeats 4000000
namespace Rz
open PySem PySem.Spec PyProof.Rows L2

section
variable {S : Inf} {H0 : Hp} {W : WX} {C : Nat → List D → Gs → R D} {X : Cx}
/-! ### names, constants -/
theorem eok_var {i : Nat} {x : Str} {pos : Pos} (hN : X.N[i]? = some x) (hv : Vis X.env.scope x) (hd : (x == ("__debug__" : Str)) = false) (hcd : (x == ("__classdict__" : Str)) = false) : PE X (.Name x pos) (tD S H0 W C (.var i)) := by
  refine (pe_var hN hv hd hcd).imp fun σ H Q ⟨env, g, B, Γ, sl, ce, h⟩ => ?_
  have q := sl.at_ i
  have h : Out S σ W H B Γ (match getS env i with | .p d => R.ok d g | _ => .no) _ := h
  cases e : getS env i with
  | p d =>
    rw [e] at q h
    obtain ⟨v, e1, r⟩ := q
    exact ⟨v, e1, h H B Γ ce .refl v r fun z => nomatch z⟩
  | u => rw [e] at h; exact h.elim
  | o d => rw [e] at h; exact h.elim
theorem eok_lit {pe : Expr} {v : V} {d : D} (h : PE X pe (tC v)) (hr : ∀ H B Γ, Rep S H B Γ v d) : PE X pe (tD S H0 W C (.lit d)) := by
  refine h.imp fun σ H Q ⟨env, g, B, Γ, sl, ce, h⟩ => ?_
  exact h H B Γ ce .refl v (hr _ _ _) fun z => nomatch z
theorem eok_glo {pe : Expr} {v : V} {x : List Nat} {d : D} (h : PE X pe (tC v)) (hr : ∀ H B Γ, Rep S H B Γ v d) : PE X pe (tD S H0 W C (.glo x d)) := by
  refine h.imp fun σ H Q ⟨env, g, B, Γ, sl, ce, h⟩ => ?_
  exact h H B Γ ce .refl v (hr _ _ _) fun z => nomatch z
theorem eok_fnv {pe : Expr} {f : Nat} (h : PE X pe (tC (.ref (S.fad f)))) : PE X pe (tD S H0 W C (.fnv f)) := by
  refine h.imp fun σ H Q ⟨env, g, B, Γ, sl, ce, h⟩ => ?_
  exact h H B Γ ce .refl _ (.fn f) fun z => nomatch z

/-! ### places -/
theorem atI_eq {α : Type} (xs : List α) (i : Int) : atI xs i = L2.atI xs i := rfl
theorem reps_atI {H : Hp} {B : Bad} {Γ : List Addr} {vs : List V} {ds : List D} {i : Int} {d : D} (q : Reps S H B Γ vs ds) (e : atI ds i = some d) : ∃ v, L2.atI vs i = some v ∧ Rep S H B Γ v d := by
  unfold atI at e
  unfold L2.atI
  cases h : ixN ds.length i with
  | none => rw [h] at e; cases e
  | some j =>
    rw [h] at e
    have e : ds[j]? = some d := e
    obtain ⟨v, e1, r⟩ := q.get e
    refine ⟨v, ?_, r⟩
    have : L2.ixN vs.length i = some j := by rw [q.length]; exact h
    rw [this]
    exact e1
/-! ### slices -/
theorem sIx_eq (n d : Nat) (o : Option Int) (hd : d ≤ n) : sIx n d o = HT.sIx n d o := by
  cases o with
  | none => rfl
  | some v =>
    have h := HT.clip_eq v n d
    show (if v < 0 then (v + (n : Int)).toNat else min v.toNat n) = _
    by_cases hv : v < 0
    · rw [if_pos hv] at h ⊢
      omega
    · rw [if_neg hv] at h ⊢
      omega
theorem cut_reps {H : Hp} {B : Bad} {Γ : List Addr} {vs : List V} {ds : List D} {lo hi : Option Int} (q : Reps S H B Γ vs ds) : Reps S H B Γ (cutV vs lo hi) (cut ds lo hi) := by
  unfold cutV cut
  rw [← sIx_eq _ _ lo (Nat.zero_le _), ← sIx_eq _ _ hi (Nat.le_refl _), q.length]
  exact (q.drop _).take _
theorem cut_whole {H : Hp} {B : Bad} {Γ : List Addr} {vs : List V} {ds : List D} {lo hi : Option Int} (q : Reps S H B Γ vs ds) (h : HT.sIx vs.length 0 lo = 0 ∧ HT.sIx vs.length vs.length hi = vs.length) : cut ds lo hi = ds := by
  unfold cut
  rw [sIx_eq _ _ lo (Nat.zero_le _), sIx_eq _ _ hi (Nat.le_refl _), ← q.length, h.1, h.2, q.length]
  simp
/-- what a slice asks -/
def rSlR (K : PySem.W.Frag) : V → Option Int → Option Int → Hp → VK → Prop := fun x lo hi H Q => rSlA K x lo hi H Q ∨ rSlL K x lo hi H Q ∨
  rSlS x lo hi H Q
theorem ro_slice {H : Hp} {B : Bad} {Γ : List Addr} {v : V} {d e : D} {lo hi : Option Int} {Q : VK} (ok : BadOk H B Γ) (r : Rep S H B Γ v d) (h : slice d lo hi = some e)
    (k : ∀ v H', L2.Same H H' → Rep S H' B Γ v e → FreshAt S H H' B Γ v e → Q v H') : rSlR S.K v lo hi H Q := by
  cases r with
  | tup h1 q1 =>
    have h : D.tup (cut _ lo hi) = e := Option.some.inj h
    subst h
    refine .inl ⟨_, _, rfl, h1, fun hw => ?_, fun _ p hp => k _ _ (same_laid hp) (new_tup ok hp (cut_reps q1)) trivial⟩
    rw [cut_whole q1 hw] at k
    exact k _ H (L2.Same.refl H) (.tup h1 q1) trivial
  | lst h1 nb q1 =>
    have h : D.lst (cut _ lo hi) = e := Option.some.inj h
    subst h
    refine .inr (.inl ⟨_, _, rfl, SqL.of h1, fun p hp => ?_⟩)
    obtain ⟨x1, x2⟩ := new_lst ok hp (cut_reps (lo := lo) (hi := hi) q1)
    exact k _ _ (same_laid hp) x1 x2
  | str l =>
    have h : (if Nat.ble l.length lineN = true then some (D.str (cut l lo hi)) else none) = some e := h
    obtain ⟨hl, he⟩ := ite_some h
    subst he
    refine .inr (.inr ⟨_, rfl, by rw [sOf_len]; exact Nat.le_trans (Nat.le_of_ble_eq_true hl) lineN_le, ?_⟩)
    have ec : cutS (sOf l) lo hi = sOf (cut l lo hi) := by
      unfold cutS cut
      rw [sOf_len, sOf_list, sIx_eq _ _ lo (Nat.zero_le _), sIx_eq _ _ hi (Nat.le_refl _)]
      rfl
    rw [ec]
    exact k _ H (L2.Same.refl H) (.str _) trivial
  | _ => cases h
theorem sl_R : SlR X (rSlR X.K) := sl_tupA.or (sl_list.or sl_str)
/-- the parts of a slice -/
theorem eok_sl_lo (hK : X.K = S.K) {ea ei : Ex} {a b : Expr} {p2 pos : Pos} (ha : PE X a (tD S H0 W C ea)) (hb : PE X b (tD S H0 W C ei)) : PE X (.Subscript a (.Slice (some b) none none p2) pos) (tD S H0 W C (.sl .lo ea [ei])) := by
  refine (pe_slice sl_R ha (po_some hb) po_none).imp fun σ H Q ⟨env, g, B, Γ, sl, ce, h⟩ => ?_
  refine tD_bind sl ce h fun d1 g1 H1 B1 Γ1 v1 sl1 ce1 s1 r1 _ h1 => ?_
  have h1 := h1.bind
  refine ⟨env, g1, B1, Γ1, sl1, ce1, ?_⟩
  cases e2 : evE C ei env g1 with
  | exc c p g2 =>
    have e : evIs C [ei] env g1 = .exc c p g2 := by show R.bind _ _ = _; rw [e2]; rfl
    rw [e] at h1; exact h1
  | no =>
    have e : evIs C [ei] env g1 = .no := by show R.bind _ _ = _; rw [e2]; rfl
    rw [e] at h1; exact h1
  | ok d2 g2 =>
    have e : evIs C [ei] env g1 = (d2.toI fun i => R.ok [.int i] g2) := by show R.bind _ _ = _; rw [e2]; cases d2 <;> rfl
    rw [e] at h1
    intro H2 B2 Γ2 ce2 s2 v2 r2 _
    cases r2 with
    | int i =>
      have h2 : Out S σ W H2 B2 Γ2 (R.of (slD .lo d1 [.int i]) g2) _ := h1 H2 B2 Γ2 ce2 s2
      obtain ⟨d, e, h3⟩ := h2.of
      refine ⟨i, rfl, ?_⟩
      rw [hK]
      exact ro_slice ce2.ok (r1.step ce1.ok s2) e fun v H' s r f => h3 H' B2 Γ2 (ce2.same s) (Same.step s) v r fun _ => (s1.trans s2).seqF f
    | _ => exact h1.elim
theorem eok_sl_hi (hK : X.K = S.K) {ea ei : Ex} {a b : Expr} {p2 pos : Pos} (ha : PE X a (tD S H0 W C ea)) (hb : PE X b (tD S H0 W C ei)) : PE X (.Subscript a (.Slice none (some b) none p2) pos) (tD S H0 W C (.sl .hi ea [ei])) := by
  refine (pe_slice sl_R ha po_none (po_some hb)).imp fun σ H Q ⟨env, g, B, Γ, sl, ce, h⟩ => ?_
  refine tD_bind sl ce h fun d1 g1 H1 B1 Γ1 v1 sl1 ce1 s1 r1 _ h1 => ?_
  have h1 := h1.bind
  refine ⟨env, g1, B1, Γ1, sl1, ce1, ?_⟩
  cases e2 : evE C ei env g1 with
  | exc c p g2 =>
    have e : evIs C [ei] env g1 = .exc c p g2 := by show R.bind _ _ = _; rw [e2]; rfl
    rw [e] at h1; exact h1
  | no =>
    have e : evIs C [ei] env g1 = .no := by show R.bind _ _ = _; rw [e2]; rfl
    rw [e] at h1; exact h1
  | ok d2 g2 =>
    have e : evIs C [ei] env g1 = (d2.toI fun i => R.ok [.int i] g2) := by show R.bind _ _ = _; rw [e2]; cases d2 <;> rfl
    rw [e] at h1
    intro H2 B2 Γ2 ce2 s2 v2 r2 _
    cases r2 with
    | int i =>
      have h2 : Out S σ W H2 B2 Γ2 (R.of (slD .hi d1 [.int i]) g2) _ := h1 H2 B2 Γ2 ce2 s2
      obtain ⟨d, e, h3⟩ := h2.of
      refine ⟨i, rfl, ?_⟩
      rw [hK]
      exact ro_slice ce2.ok (r1.step ce1.ok s2) e fun v H' s r f => h3 H' B2 Γ2 (ce2.same s) (Same.step s) v r fun _ => (s1.trans s2).seqF f
    | _ => exact h1.elim
theorem eok_sl_both (hK : X.K = S.K) {ea ei ej : Ex} {a b c : Expr} {p2 pos : Pos} (ha : PE X a (tD S H0 W C ea)) (hb : PE X b (tD S H0 W C ei)) (hc : PE X c (tD S H0 W C ej)) : PE X (.Subscript a (.Slice (some b) (some c) none p2) pos) (tD S H0 W C (.sl .both ea [ei, ej])) := by
  refine (pe_slice sl_R ha (po_some hb) (po_some hc)).imp fun σ H Q ⟨env, g, B, Γ, sl, ce, h⟩ => ?_
  refine tD_bind sl ce h fun d1 g1 H1 B1 Γ1 v1 sl1 ce1 s1 r1 _ h1 => ?_
  have h1 := h1.bind
  refine ⟨env, g1, B1, Γ1, sl1, ce1, ?_⟩
  cases e2 : evE C ei env g1 with
  | exc c p g2 =>
    have e : evIs C [ei, ej] env g1 = .exc c p g2 := by show R.bind _ _ = _; rw [e2]; rfl
    rw [e] at h1; exact h1
  | no =>
    have e : evIs C [ei, ej] env g1 = .no := by show R.bind _ _ = _; rw [e2]; rfl
    rw [e] at h1; exact h1
  | ok d2 g2 =>
    have e : evIs C [ei, ej] env g1 = (d2.toI fun i => (evIs C [ej] env g2).bind fun ds g => R.ok (.int i :: ds) g) := by show R.bind _ _ = _; rw [e2]; cases d2 <;> rfl
    rw [e] at h1
    intro H2 B2 Γ2 ce2 s2 v2 r2 _
    cases r2 with
    | int i =>
      refine ⟨i, rfl, env, g2, B2, Γ2, sl1.step ce1.ok s2, ce2, ?_⟩
      cases e3 : evE C ej env g2 with
      | exc c p g3 =>
        have e : evIs C [ej] env g2 = .exc c p g3 := by show R.bind _ _ = _; rw [e3]; rfl
        simp only [D.toI, e, R.bind] at h1
        exact fun H3 B3 Γ3 cls dd c3 s3 x => h1 H3 B3 Γ3 cls dd c3 (s2.trans s3) x
      | no =>
        have e : evIs C [ej] env g2 = .no := by show R.bind _ _ = _; rw [e3]; rfl
        simp only [D.toI, e, R.bind] at h1; exact h1
      | ok d3 g3 =>
        have e : evIs C [ej] env g2 = (d3.toI fun i => R.ok [.int i] g3) := by show R.bind _ _ = _; rw [e3]; cases d3 <;> rfl
        simp only [D.toI, e, R.bind] at h1
        intro H3 B3 Γ3 ce3 s3 v3 r3 _
        cases r3 with
        | int j =>
          have h2 : Out S σ W H3 B3 Γ3 (R.of (slD .both d1 [.int i, .int j]) g3) _ := h1 H3 B3 Γ3 ce3 (s2.trans s3)
          obtain ⟨d, e, h3⟩ := h2.of
          refine ⟨j, rfl, ?_⟩
          rw [hK]
          exact ro_slice ce3.ok ((r1.step ce1.ok s2).step ce2.ok s3) e fun v H' s r f => h3 H' B3 Γ3 (ce3.same s) (Same.step s) v r fun _ => ((s1.trans s2).trans s3).seqF f
        | _ => exact h1.elim
    | _ => exact h1.elim
end
end Rz

/-! RzS7 -/
set_option Elab.async false
set_option linter.all false
set_option maxRecDepth 100000
set_option maxHeartbeats 4000000
namespace Rz
open PySem PySem.Spec PyProof.Rows L2

/-! ### calls of defs -/
def frOf (T : Nat → Option Fn) (f : Nat) : Bool := match T f with
  | some F => F.fr
  | none => false
/-- what a def promises at n calls deep -/
def spD (S : Inf) (n f : Nat) : Sp := fun vs H Q E => ∃ ds g B Γ, ds.length = (S.ps f).length ∧ Reps S H B Γ vs ds ∧ Cells S H g B Γ ∧
  Out S [] (fun cls dd _ H => E cls dd H) H B Γ (evF S.T n f ds g) fun d g' H' B' Γ' => ∀ v, Rep S H' B' Γ' v d → (frOf S.T f = true → FreshAt S H H' B' Γ' v d) → Q v H'
/-- a def keeps its promise at n -/
structure Def (S : Inf) (n f : Nat) : Prop where
  ok : FnOk S.P S.w S.K S.mg S.base (L2.CX S.P S.w) n (S.fad f) (S.fd f) (S.ps f) (spD S n f)
/-- what a call wants to know of a def -/
structure Nm (S : Inf) (f : Nat) : Prop where
  mg : S.mg (S.nam f) = some (.ref (S.fad f))
  kp : PySem.W.keepIn S.K (.ref (S.fad f)) = true
  bd : Binds S.K (S.fd f) (S.ps f) []
/-- the body stands in S -/
structure In (S : Inf) (X : Cx) : Prop where
  P : X.prog = S.P
  w : X.w = S.w
  K : X.K = S.K
  mg : X.mg = S.mg
  base : X.base = S.base
theorem isF_call {T : Nat → Option Fn} {f : Nat} {es : List Ex} : isF T (.call f es) = frOf T f := rfl
section
variable {S : Inf} {H0 : Hp} {W : WX} {X : Cx}
theorem eok_call {n f : Nat} {e : Ex} {es : List Ex} {pe : Expr} {pes : List Expr} {x : Str} {p pos : Pos} (i : In S X) (F : Def S n f) (m : Nm S f) (hx : S.nam f = x) (hr : Room n X.A) (hg : Gl X x) (tk : Takes X W) (hl : (e :: es).length = (S.ps f).length)
    (ha : PA X (pe :: pes) (tDs S H0 W (evF S.T n) (e :: es))) (hdb : (x == ("__debug__" : Str)) = false) (he : starEach (pe :: pes) X.env = (false, eval pe X.env) :: starEach pes X.env) (hpl : (backTo pos (starEach pes X.env)).any (·.1) = false) :
    PE X (.Call (.Name x p) (pe :: pes) [] pos) (tD S H0 W (evF S.T n) (.call f (e :: es))) := by
  subst hx
  have F' := F.ok
  have m1 := m.mg
  have m2 := m.kp
  have m3 := m.bd
  rw [← i.P, ← i.w, ← i.K, ← i.mg, ← i.base] at F'
  rw [← i.mg] at m1
  rw [← i.K] at m2 m3
  refine (pe_callS F' hr hg m1 m2 m3 (fun σ => passAt tk σ) ha hdb he hpl).imp fun σ H Q ⟨env, g, B, Γ, sl, ce, h⟩ => ?_
  refine tDs_bindL sl ce h fun ds g1 H1 B1 Γ1 vs hlen sl1 ce1 s1 r1 h1 => ?_
  refine ⟨ds, g1, B1, Γ1, hlen.trans hl, r1, ce1, ?_⟩
  cases e1 : evF S.T n f ds g1 with
  | ok d g2 =>
    rw [e1] at h1
    exact fun H' B' Γ' c s v r fr => h1 H' B' Γ' c s v r fun z => s1.seqF (fr z)
  | exc c q g2 => rw [e1] at h1; exact h1
  | no => rw [e1] at h1; exact h1
theorem eok_call0 {n f : Nat} {x : Str} {p pos : Pos} (i : In S X) (F : Def S n f) (m : Nm S f) (hx : S.nam f = x) (hr : Room n X.A) (hg : Gl X x) (tk : Takes X W) (hl : 0 = (S.ps f).length) (hdb : (x == ("__debug__" : Str)) = false) :
    PE X (.Call (.Name x p) [] [] pos) (tD S H0 W (evF S.T n) (.call f [])) := by
  subst hx
  have F' := F.ok
  have m1 := m.mg
  have m2 := m.kp
  have m3 := m.bd
  rw [← i.P, ← i.w, ← i.K, ← i.mg, ← i.base] at F'
  rw [← i.mg] at m1
  rw [← i.K] at m2 m3
  refine ⟨fun pins s σ H Q I ⟨env, g, B, Γ, sl, ce, h⟩ => ?_⟩
  refine wpAny_Call_Name_kw (ld_glob I hg m1 ?_ hdb)
  refine PySem.W.callWith_K0 I.kIn m2 (run_fnS (us := []) (vs := []) (E := WE W) F' hr m3 (passAt tk σ) I .nil ?_)
  refine ⟨[], g, B, Γ, hl, .nil, ce, ?_⟩
  have h : Out S σ W H B Γ (evF S.T n f [] g) _ := h
  cases e1 : evF S.T n f [] g with
  | ok d g2 =>
    rw [e1] at h
    exact fun H' B' Γ' c s v r fr => h H' B' Γ' c s v r fun z => fr z
  | exc c q g2 => rw [e1] at h; exact h
  | no => rw [e1] at h; exact h
end
end Rz

/-! RzS8 -/
set_option Elab.async false
set_option linter.all false
set_option maxRecDepth 100000
set_option maxHeartbeats 4000000
namespace Rz
open PySem PySem.Spec PyProof.Rows L2

/-! ### built-ins -/
def RB (S : Inf) (r : List V → Hp → VK → Prop) (b : Bi) : Prop := ∀ H B Γ vs ds d Q, BadOk H B Γ → Reps S H B Γ vs ds → bi b ds = some d →
  (∀ v H', L2.Same H H' → Rep S H' B Γ v d → FreshAt S H H' B Γ v d → Q v H') → r vs H Q
section
variable {S : Inf} {H0 : Hp} {W : WX} {X : Cx} {C : Nat → List D → Gs → R D}
theorem eok_bi {r : List V → Hp → VK → Prop} {b : Bi} {es : List Ex} {pe : Expr} (h : PE X pe (tCB r (tDs S H0 W C es))) (hr : RB S r b) : PE X pe (tD S H0 W C (.bi b es)) := by
  refine h.imp fun σ H Q ⟨env, g, B, Γ, sl, ce, h⟩ => ?_
  refine tDs_bindL sl ce h fun ds g1 H1 B1 Γ1 vs hlen sl1 ce1 s1 r1 h1 => ?_
  obtain ⟨d, e, h3⟩ := h1.of
  exact hr H1 B1 Γ1 vs ds d Q ce1.ok r1 e fun v H3 s3 r3 fr => h3 H3 B1 Γ1 (ce1.same s3) (Same.step s3) v r3 fun _ => s1.seqF fr
theorem reps1 {H : Hp} {B : Bad} {Γ : List Addr} {vs : List V} {d : D} (r : Reps S H B Γ vs [d]) : ∃ v, vs = [v] ∧ Rep S H B Γ v d := by
  cases r with
  | cons h t => cases t; exact ⟨_, rfl, h⟩
theorem reps2 {H : Hp} {B : Bad} {Γ : List Addr} {vs : List V} {d e : D} (r : Reps S H B Γ vs [d, e]) : ∃ v w, vs = [v, w] ∧ Rep S H B Γ v d ∧ Rep S H B Γ w e := by
  cases r with
  | cons h t => obtain ⟨w, rfl, q⟩ := reps1 t; exact ⟨_, w, rfl, h, q⟩
theorem reps3 {H : Hp} {B : Bad} {Γ : List Addr} {vs : List V} {d e f : D} (r : Reps S H B Γ vs [d, e, f]) : ∃ v w x, vs = [v, w, x] ∧ Rep S H B Γ v d ∧ Rep S H B Γ w e ∧ Rep S H B Γ x f := by
  cases r with
  | cons h t => obtain ⟨w, x, rfl, q⟩ := reps2 t; exact ⟨_, w, x, rfl, h, q⟩
theorem bi1 {b : Bi} {ds : List D} {d : D} (e : bi b ds = some d) (h : b = .len ∨ b = .int ∨ b = .bool ∨ b = .abs ∨ b = .max1 ∨ b = .sum ∨ b = .tuple ∨ b = .list ∨ b = .lrange ∨ b = .sorted ∨ b = .any ∨ b = .all ∨ b = .str ∨ b = .isint ∨ b = .isbool ∨ b = .isstr ∨ b = .istup ∨ b = .islst) : ∃ x, ds = [x] := by
  match ds, e with
  | [], e => rcases h with h | h | h | h | h | h | h | h | h | h | h | h | h | h | h | h | h | h <;> (subst h; cases e)
  | [x], _ => exact ⟨x, rfl⟩
  | x :: y :: r, e => rcases h with h | h | h | h | h | h | h | h | h | h | h | h | h | h | h | h | h | h <;> (subst h; cases e)
theorem bi2 {b : Bi} {ds : List D} {d : D} (e : bi b ds = some d) (h : b = .min2 ∨ b = .max2 ∨ b = .lzip ∨ b = .dzip ∨ b = .join ∨ b = .split) : ∃ x y, ds = [x, y] := by
  match ds, e with
  | [], e => rcases h with h | h | h | h | h | h <;> (subst h; cases e)
  | [x], e => rcases h with h | h | h | h | h | h <;> (subst h; cases e)
  | [x, y], _ => exact ⟨x, y, rfl⟩
  | x :: y :: z :: r, e => rcases h with h | h | h | h | h | h <;> (subst h; cases e)
theorem bi3 {b : Bi} {ds : List D} {d : D} (e : bi b ds = some d) (h : b = .min3 ∨ b = .get) : ∃ x y z, ds = [x, y, z] := by
  match ds, e with
  | [], e => rcases h with h | h <;> (subst h; cases e)
  | [x], e => rcases h with h | h <;> (subst h; cases e)
  | [x, y], e => rcases h with h | h <;> (subst h; cases e)
  | [x, y, z], _ => exact ⟨x, y, z, rfl⟩
  | x :: y :: z :: w :: r, e => rcases h with h | h <;> (subst h; cases e)

/-! len -/
def rLenR (K : PySem.W.Frag) : List V → Hp → VK → Prop := fun xs H Q => (∃ p ys, xs = [.ref p] ∧ (SqL K H p ys ∨ SqT K H p ys) ∧ Q (.int ys.length) H) ∨ (∃ z : Str, xs = [.str z] ∧ z.length ≤ sizeLine ∧ Q (.int z.length) H)
theorem cr_lenR : CallR X (.builtin "len") (rLenR X.K) := fun pins s σ H xs us Q I r h => h.elim (call_len_seq pins s σ H xs us Q I r) (call_len_str pins s σ H xs us Q I r)
theorem rb_len : RB S (rLenR S.K) .len := by
  intro H B Γ vs ds d Q ok r e k
  obtain ⟨x, rfl⟩ := bi1 e (by simp)
  obtain ⟨v, rfl, h⟩ := reps1 r
  cases h with
  | tup hx q => injection e with e; subst e; rw [← q.length] at k; exact .inl ⟨_, _, rfl, .inr hx, k _ H (L2.Same.refl H) (.int _) trivial⟩
  | lst hx nb q => injection e with e; subst e; rw [← q.length] at k; exact .inl ⟨_, _, rfl, .inl (SqL.of hx), k _ H (L2.Same.refl H) (.int _) trivial⟩
  | scr hx q => injection e with e; subst e; rw [← q.length] at k; exact .inl ⟨_, _, rfl, .inl hx.seq, k _ H (L2.Same.refl H) (.int _) trivial⟩
  | str l =>
    obtain ⟨hl, he⟩ := ite_some e
    subst he
    refine .inr ⟨_, rfl, by rw [sOf_len]; exact Nat.le_trans (Nat.le_of_ble_eq_true hl) lineN_le, ?_⟩
    rw [sOf_len]
    exact k _ H (L2.Same.refl H) (.int _) trivial
  | _ => cases e
/-! int, bool, abs -/
theorem rb_int : RB S (fun xs H Q => (∃ i, xs = [.int i] ∧ Q (.int i) H) ∨ ∃ k, xs = [.bl k] ∧ Q (.int (if k then 1 else 0)) H) .int := by
  intro H B Γ vs ds d Q ok r e k
  obtain ⟨x, rfl⟩ := bi1 e (by simp)
  obtain ⟨v, rfl, h⟩ := reps1 r
  cases h with
  | int i => injection e with e; subst e; exact .inl ⟨i, rfl, k _ H (L2.Same.refl H) (.int _) trivial⟩
  | bl b => injection e with e; subst e; exact .inr ⟨b, rfl, k _ H (L2.Same.refl H) (.int _) trivial⟩
  | _ => cases e
theorem rb_bool : RB S (fun xs H Q => (∃ i, xs = [.int i] ∧ Q (.bl (i != 0)) H) ∨ ∃ k, xs = [.bl k] ∧ Q (.bl k) H) .bool := by
  intro H B Γ vs ds d Q ok r e k
  obtain ⟨x, rfl⟩ := bi1 e (by simp)
  obtain ⟨v, rfl, h⟩ := reps1 r
  cases h with
  | bl b => injection e with e; subst e; exact .inr ⟨b, rfl, k _ H (L2.Same.refl H) (.bl _) trivial⟩
  | _ => cases e
theorem rb_abs : RB S (fun xs H Q => ∃ i, xs = [.int i] ∧ Q (.int (if i < 0 then -i else i)) H) .abs := by
  intro H B Γ vs ds d Q ok r e k
  obtain ⟨x, rfl⟩ := bi1 e (by simp)
  obtain ⟨v, rfl, h⟩ := reps1 r
  cases h with
  | int i => injection e with e; subst e; exact ⟨i, rfl, k _ H (L2.Same.refl H) (.int _) trivial⟩
  | _ => cases e
theorem rb_max2 : RB S (fun xs H Q => ∃ i j, xs = [.int i, .int j] ∧ Q (.int (if j > i then j else i)) H) .max2 := by
  intro H B Γ vs ds d Q ok r e k
  obtain ⟨x, y, rfl⟩ := bi2 e (by simp)
  obtain ⟨v, w, rfl, h, h2⟩ := reps2 r
  cases h with
  | int i => cases h2 with
    | int j => injection e with e; subst e; exact ⟨i, j, rfl, k _ H (L2.Same.refl H) (.int _) trivial⟩
    | _ => cases e
  | _ => cases h2 <;> cases e
theorem rb_min2 : RB S (fun xs H Q => ∃ i j, xs = [.int i, .int j] ∧ Q (.int (if j < i then j else i)) H) .min2 := by
  intro H B Γ vs ds d Q ok r e k
  obtain ⟨x, y, rfl⟩ := bi2 e (by simp)
  obtain ⟨v, w, rfl, h, h2⟩ := reps2 r
  cases h with
  | int i => cases h2 with
    | int j => injection e with e; subst e; exact ⟨i, j, rfl, k _ H (L2.Same.refl H) (.int _) trivial⟩
    | _ => cases e
  | _ => cases h2 <;> cases e
theorem nuLt_int (i j : Int) : nuLt (.int i) (.int j) = some (decide (i < j)) := rfl
theorem nuMin3_int (i j k : Int) : nuMin3 (.int i) (.int j) (.int k) = some (.int (if k < (if j < i then j else i) then k else (if j < i then j else i))) := by
  unfold nuMin3 nuMin2
  rw [nuLt_int]
  by_cases h : j < i
  · simp only [h, decide_true, Option.map_some, if_true, Option.bind_some]
    rw [nuLt_int]
    by_cases h2 : k < j <;> simp [h2]
  · simp only [h, decide_false, Option.map_some, if_false, Option.bind_some, Bool.false_eq_true]
    rw [nuLt_int]
    by_cases h2 : k < i <;> simp [h2]
theorem rb_min3 : RB S (rNuC3 nuMin3) .min3 := by
  intro H B Γ vs ds d Q ok r e k
  obtain ⟨x, y, z, rfl⟩ := bi3 e (by simp)
  obtain ⟨v, w, u, rfl, h, h2, h3⟩ := reps3 r
  cases h with
  | int i => cases h2 with
    | int j => cases h3 with
      | int l => injection e with e; subst e; exact ⟨_, _, _, _, rfl, nuMin3_int i j l, k _ H (L2.Same.refl H) (.int _) trivial⟩
      | _ => cases e
    | _ => cases h3 <;> cases e
  | _ => cases h2 <;> cases h3 <;> cases e
/-! tuple, list -/
theorem rb_tuple : RB S (fun xs H Q => ∃ p ys, xs = [.ref p] ∧ ((SqL S.K H p ys ∧ ∀ l, H l = none → Q (.ref l) (upd H l (.tup ys))) ∨ (SqT S.K H p ys ∧ Q (.ref p) H))) .tuple := by
  intro H B Γ vs ds d Q ok r e k
  obtain ⟨x, rfl⟩ := bi1 e (by simp)
  obtain ⟨v, rfl, h⟩ := reps1 r
  cases h with
  | tup hx q => injection e with e; subst e; exact ⟨_, _, rfl, .inr ⟨hx, k _ H (L2.Same.refl H) (.tup hx q) trivial⟩⟩
  | lst hx nb q => injection e with e; subst e; exact ⟨_, _, rfl, .inl ⟨SqL.of hx, fun p hp => k _ _ (same_laid hp) (new_tup ok hp q) trivial⟩⟩
  | _ => cases e
theorem rb_list : RB S (fun xs H Q => ∃ p ys, xs = [.ref p] ∧ (SqL S.K H p ys ∨ SqT S.K H p ys) ∧ ∀ l, H l = none → Q (.ref l) (upd H l (.lst ys))) .list := by
  intro H B Γ vs ds d Q ok r e k
  obtain ⟨x, rfl⟩ := bi1 e (by simp)
  obtain ⟨v, rfl, h⟩ := reps1 r
  cases h with
  | tup hx q =>
    injection e with e; subst e
    exact ⟨_, _, rfl, .inr hx, fun p hp => let ⟨a, b⟩ := new_lst ok hp q; k _ _ (same_laid hp) a b⟩
  | lst hx nb q =>
    injection e with e; subst e
    exact ⟨_, _, rfl, .inl (SqL.of hx), fun p hp => let ⟨a, b⟩ := new_lst ok hp q; k _ _ (same_laid hp) a b⟩
  | _ => cases e
/-! sum, any, all, sorted -/
theorem reps_ints {H : Hp} {B : Bad} {Γ : List Addr} : ∀ {vs : List V} {ds : List D} {ns : List Int}, Reps S H B Γ vs ds → intsOf ds = some ns → vs = ns.map V.int ∧ ds = ns.map D.int
  | _, _, _, .nil, e => by injection e with e; subst e; exact ⟨rfl, rfl⟩
  | _, _, ns, .cons h t, e => by
    cases h with
    | int i =>
      rename_i vs ds
      have e : (intsOf ds).map (i :: ·) = some ns := e
      cases e1 : intsOf ds with
      | none => rw [e1] at e; cases e
      | some ms =>
        rw [e1] at e
        have e : i :: ms = ns := Option.some.inj e
        subst e
        obtain ⟨a, b⟩ := reps_ints t e1
        exact ⟨by rw [a]; rfl, by rw [b]; rfl⟩
    | _ => cases e
theorem reps_bls {H : Hp} {B : Bad} {Γ : List Addr} : ∀ {vs : List V} {ds : List D} {ns : List Bool}, Reps S H B Γ vs ds → blsOf ds = some ns → vs = ns.map V.bl
  | _, _, _, .nil, e => by injection e with e; subst e; rfl
  | _, _, ns, .cons h t, e => by
    cases h with
    | bl i =>
      rename_i vs ds
      have e : (blsOf ds).map (i :: ·) = some ns := e
      cases e1 : blsOf ds with
      | none => rw [e1] at e; cases e
      | some ms =>
        rw [e1] at e
        have e : i :: ms = ns := Option.some.inj e
        subst e
        rw [reps_bls t e1]; rfl
    | _ => cases e
theorem reps_of_ints {H : Hp} {B : Bad} {Γ : List Addr} : ∀ ns : List Int, Reps S H B Γ (ns.map V.int) (ns.map D.int)
  | [] => .nil
  | i :: ns => .cons (.int i) (reps_of_ints ns)
theorem rb_sum : RB S (rSum S.K) .sum := by
  intro H B Γ vs ds d Q ok r e k
  obtain ⟨x, rfl⟩ := bi1 e (by simp)
  obtain ⟨v, rfl, h⟩ := reps1 r
  cases h with
  | @lst a vs es hx nb q =>
    have e : ((intsOf es).map fun ns => D.int ns.sum) = some d := e
    cases e1 : intsOf es with
    | none => rw [e1] at e; cases e
    | some ns =>
      rw [e1] at e
      have e : D.int ns.sum = d := Option.some.inj e
      subst e
      obtain ⟨ev, _⟩ := reps_ints q e1
      subst ev
      exact ⟨a, ns, rfl, SqL.of hx, k _ H (L2.Same.refl H) (.int _) trivial⟩
  | _ => cases e
theorem rb_any : RB S (rAny S.K) .any := by
  intro H B Γ vs ds d Q ok r e k
  obtain ⟨x, rfl⟩ := bi1 e (by simp)
  obtain ⟨v, rfl, h⟩ := reps1 r
  cases h with
  | @lst a vs es hx nb q =>
    have e : ((blsOf es).map fun bs => D.bl (bs.any id)) = some d := e
    cases e1 : blsOf es with
    | none => rw [e1] at e; cases e
    | some ns =>
      rw [e1] at e
      have e : D.bl (ns.any id) = d := Option.some.inj e
      subst e
      have ev := reps_bls q e1
      subst ev
      exact ⟨a, ns, rfl, SqL.of hx, k _ H (L2.Same.refl H) (.bl _) trivial⟩
  | _ => cases e
theorem rb_all : RB S (rAll S.K) .all := by
  intro H B Γ vs ds d Q ok r e k
  obtain ⟨x, rfl⟩ := bi1 e (by simp)
  obtain ⟨v, rfl, h⟩ := reps1 r
  cases h with
  | @lst a vs es hx nb q =>
    have e : ((blsOf es).map fun bs => D.bl (bs.all id)) = some d := e
    cases e1 : blsOf es with
    | none => rw [e1] at e; cases e
    | some ns =>
      rw [e1] at e
      have e : D.bl (ns.all id) = d := Option.some.inj e
      subst e
      have ev := reps_bls q e1
      subst ev
      exact ⟨a, ns, rfl, SqL.of hx, k _ H (L2.Same.refl H) (.bl _) trivial⟩
  | _ => cases e
theorem insI_perm (x : Int) : ∀ l : List Int, (insI x l).Perm (x :: l)
  | [] => .refl _
  | y :: r => by
    unfold insI
    split
    · exact .refl _
    · exact ((insI_perm x r).cons y).trans (.swap x y r)
theorem sortI_perm : ∀ l : List Int, (sortI l).Perm l
  | [] => .refl _
  | x :: r => by
    unfold sortI
    exact (insI_perm x _).trans ((sortI_perm r).cons x)
theorem insI_sorted (x : Int) : ∀ l : List Int, l.Pairwise (· ≤ ·) → (insI x l).Pairwise (· ≤ ·)
  | [], _ => by simp [insI]
  | y :: r, h => by
    unfold insI
    rw [List.pairwise_cons] at h
    split
    · rename_i hx
      refine List.pairwise_cons.mpr ⟨fun z hz => ?_, List.pairwise_cons.mpr h⟩
      rcases List.mem_cons.mp hz with hz | hz
      · rw [hz]; exact hx
      · exact Int.le_trans hx (h.1 z hz)
    · rename_i hx
      refine List.pairwise_cons.mpr ⟨fun z hz => ?_, insI_sorted x r h.2⟩
      have hz := (insI_perm x r).mem_iff.mp hz
      rcases List.mem_cons.mp hz with hz | hz
      · rw [hz]; omega
      · exact h.1 z hz
theorem sortI_sorted : ∀ l : List Int, (sortI l).Pairwise (· ≤ ·)
  | [] => by simp [sortI]
  | x :: r => by unfold sortI; exact insI_sorted x _ (sortI_sorted r)
theorem sorted_unique {a b : List Int} (h : a.Perm b) (ha : a.Pairwise (· ≤ ·)) (hb : b.Pairwise (· ≤ ·)) : a = b :=
  h.eq_of_pairwise (le := (· ≤ ·)) (fun x y _ _ h1 h2 => Int.le_antisymm h1 h2) ha hb
theorem rb_sorted : RB S (rSorted S.K) .sorted := by
  intro H B Γ vs ds d Q ok r e k
  obtain ⟨x, rfl⟩ := bi1 e (by simp)
  obtain ⟨v, rfl, h⟩ := reps1 r
  cases h with
  | @lst a vs es hx nb q =>
    have e : (match intsOf es with | some ns => if Nat.blt ns.length 64 then some (D.lst ((sortI ns).map .int)) else none | none => none) = some d := e
    cases e1 : intsOf es with
    | none => rw [e1] at e; cases e
    | some ns =>
      rw [e1] at e
      obtain ⟨hl, he⟩ := ite_some e
      subst he
      obtain ⟨ev, _⟩ := reps_ints q e1
      subst ev
      refine ⟨a, ns, rfl, SqL.of hx, Nat.le_of_ble_eq_true hl, fun ns' p hp hs hf => ?_⟩
      have : ns' = sortI ns := sorted_unique (hp.trans (sortI_perm ns).symm) hs (sortI_sorted ns)
      subst this
      obtain ⟨x1, x2⟩ := new_lst ok hf (reps_of_ints (S := S) (sortI ns))
      exact k _ _ (same_laid hf) x1 x2
  | _ => cases e
end
end Rz

/-! RzS9 -/
set_option Elab.async false
set_option linter.all false
set_option maxRecDepth 100000
set_option maxHeartbeats 4000000
namespace Rz
open PySem PySem.Spec PyProof.Rows L2

/-! ### comprehensions -/
abbrev WF0 : WX := fun _ _ _ _ => False
def tCd (S : Inf) (H0 : Hp) (W : WX) (C : Nat → List D → Gs → R D) (c : List Ex) : TT := fun σ H Q => ∃ env g B Γ, Slots S H B Γ H0 σ env ∧ Cells S H g B Γ ∧
  Out S σ W H B Γ (evC C c env g) fun d g' H' B' Γ' => ∃ b, d = .bl b ∧ Q b H'
theorem _root_.L2.PTs.imp {X : Cx} {es : List Expr} {t t' : TT} (h : PTs X es t) (hi : ∀ σ H Q, t' σ H Q → t σ H Q) : PTs X es t' := ⟨fun pins s σ H Q I q => h.run pins s σ H Q I (hi _ _ _ q)⟩
theorem wipe_wipe (σ : L2.St) (vs : List Nat) : L2.wipe (L2.wipe σ vs) vs = L2.wipe σ vs := by
  apply List.ext_getElem?
  intro j
  rw [wipe_get, wipe_get, L2.wipe_length]
  by_cases h : j ∈ vs ∧ j < σ.length
  · rw [if_pos h, if_pos h]
  · rw [if_neg h]
section
variable {S : Inf} {H0 : Hp} {W : WX} {X : Cx} {C : Nat → List D → Gs → R D}
theorem cok_nil : PTs X [] (tCd S H0 W C []) := pts_nil.imp fun σ H Q ⟨env, g, B, Γ, sl, ce, h⟩ => by
  obtain ⟨b, e, q⟩ := h H B Γ ce .refl
  injection e with e
  subst e
  exact q
theorem cok_one {c : Ex} {pc : Expr} (h : PT X pc (tDT S H0 W C c)) : PTs X [pc] (tCd S H0 W C [c]) := (pts_one h).imp fun σ H Q ⟨env, g, B, Γ, sl, ce, h⟩ => ⟨env, g, B, Γ, sl, ce, h⟩
def compR (C : Nat → List D → Gs → R D) (e : Ex) (t : Tg) (k : ItK) (c : List Ex) (env : Env) : List D → Gs → R D := fun ds g => match items k ds with
  | none => .no
  | some xs => if Nat.ble xs.length lineN then match compL (fun env g => evE C e env g) (fun env g => evC C c env g) t xs (wipeS t.ix env) g with
      | .ok ys g => .ok (.lst ys) g
      | _ => .no
    else .no
/-- what holds between two turns -/
def LcI (S : Inf) (C : Nat → List D → Gs → R D) (e : Ex) (t : Tg) (c : List Ex) (xs : List D) (env : Env) (H1 : Hp) (B1 : Bad) (Γ1 : List Addr) (Dl : Addr) (ys : List D) (g2 : Gs) (i : Nat) (H : Hp) : Prop :=
  ∃ g B Γ acc ads, Cells S H g B Γ ∧ Step H1 B1 Γ1 H B Γ ∧ B Dl ∧ Dl ∉ Γ ∧ H Dl = some (.lst acc) ∧ Reps S H B Γ acc ads ∧ ads.length ≤ i ∧ i ≤ xs.length ∧
    ∃ ys', compL (fun env g => evE C e env g) (fun env g => evC C c env g) t (xs.drop i) env g = .ok ys' g2 ∧ ys = ads ++ ys'
theorem compL_cons {f c : Env → Gs → R D} {t : Tg} {d : D} {ds : List D} {env : Env} {g g2 : Gs} {ys : List D} (h : compL f c t (d :: ds) env g = .ok ys g2) :
    ∃ e1 g1, bindT t d env = some e1 ∧ ((c e1 g = .ok (.bl true) g1 ∧ ∃ x g3 xs, f e1 g1 = .ok x g3 ∧ compL f c t ds env g3 = .ok xs g2 ∧ ys = x :: xs) ∨ (c e1 g = .ok (.bl false) g1 ∧ compL f c t ds env g1 = .ok ys g2)) := by
  unfold compL at h
  cases e0 : bindT t d env with
  | none => rw [e0] at h; cases h
  | some e1 =>
    rw [e0] at h
    simp only at h
    refine ⟨e1, ?_⟩
    cases ec : c e1 g with
    | no => rw [ec] at h; cases h
    | exc a b g => rw [ec] at h; cases h
    | ok b g1 =>
      rw [ec] at h
      refine ⟨g1, rfl, ?_⟩
      cases b with
      | bl b =>
        cases b with
        | true =>
          simp only at h
          cases ef : f e1 g1 with
          | no => rw [ef] at h; cases h
          | exc a b g => rw [ef] at h; cases h
          | ok x g3 =>
            rw [ef] at h
            simp only at h
            cases er : compL f c t ds env g3 with
            | no => rw [er] at h; cases h
            | exc a b g => rw [er] at h; cases h
            | ok xs g4 =>
              rw [er] at h
              simp only at h
              injection h with h1 h2
              subst h1 h2
              exact .inl ⟨rfl, x, g3, xs, rfl, er, rfl⟩
        | false => exact .inr ⟨rfl, h⟩
      | _ => cases h
theorem lc_law {e : Ex} {t : Tg} {k : ItK} {es c : List Ex} {σ : L2.St} {H : Hp} {Q : VK} (h : tD S H0 W C (.comp e t k es c) σ H Q) :
    tLc (tIt S H0 W C k es) (gOf S.K t) (tCd S H0 WF0 C c) (tD S H0 WF0 C e) t.ix σ H Q := by
  obtain ⟨env, g, B, Γ, sl, ce, h⟩ := h
  refine ⟨env, g, B, Γ, sl, ce, ?_⟩
  have h : Out S σ W H B Γ ((evEs C es env g).bind (compR C e t k c env)) _ := h
  refine h.bind.imp fun ds g1 H1 B1 Γ1 ce1 s1 h1 => ?_
  unfold compR at h1
  cases ei : items k ds with
  | none => rw [ei] at h1; exact h1.elim
  | some xs =>
    rw [ei] at h1
    refine ⟨xs, rfl, fun J hJ Dl hD => ?_⟩
    simp only at h1
    by_cases hz : Nat.ble xs.length lineN = true
    · rw [if_pos hz] at h1
      have hz : xs.length ≤ lineN := Nat.le_of_ble_eq_true hz
      cases ec : compL (fun env g => evE C e env g) (fun env g => evC C c env g) t xs (wipeS t.ix env) g1 with
      | exc a b g => rw [ec] at h1; exact h1.elim
      | no => rw [ec] at h1; exact h1.elim
      | ok ys g2 =>
        rw [ec] at h1
        have h1 : ∀ H' B' Γ', Cells S H' g2 B' Γ' → Step H1 B1 Γ1 H' B' Γ' → ∀ v, Rep S H' B' Γ' v (.lst ys) → (isF S.T (.comp e t k es c) = true → FreshAt S H H' B' Γ' v (.lst ys)) → Q v H' := h1
        have nB : ¬ B1 Dl := not_bad_new ce1.ok hD
        have nG : Dl ∉ Γ1 := fun z => nB (ce1.ok.cell _ z)
        refine ⟨fun i m H' => m = xs.length - i ∧ LcI S C e t c xs (wipeS t.ix env) H1 B1 Γ1 Dl ys g2 i H', ⟨_, rfl, ?_⟩, ?_⟩
        · refine ⟨g1, fun b => B1 b ∨ b = Dl, Γ1, [], [], ⟨⟨fun a b => ?_, fun a m => .inl (ce1.ok.cell a m)⟩, ce1.len, ce1.nd, ce1.nl, fun n ds q => ?_⟩, ⟨fun b o q n => ?_, fun b q => .inl q, fun b q => ?_, fun n a q => q, fun b q => .inl q, fun b q => ?_⟩, .inr rfl, nG, upd_same, .nil, Nat.le_refl _, Nat.zero_le _, ys, by rw [List.drop_zero]; exact ec, rfl⟩
          · rcases b with b | b
            · have : a ≠ Dl := fun z => nB (by rw [← z]; exact b)
              rw [upd_ne this]; exact ce1.ok.kin a b
            · rw [b, upd_same]; exact .inl ⟨[], rfl⟩
          · obtain ⟨a, vs, q1, q2, q3⟩ := ce1.at_ n ds q
            have : a ≠ Dl := fun z => by rw [z, hD] at q2; cases q2
            exact ⟨a, vs, q1, by rw [upd_ne this]; exact q2, Reps.more' hD q3⟩
          · have : b ≠ Dl := fun z => by rw [z, hD] at q; cases q
            rw [upd_ne this]; exact q
          · rcases q with q | q
            · exact .inl q
            · exact .inr (by rw [q]; exact hD)
          · by_cases z : b = Dl
            · rw [z, upd_same]; exact fun z => nomatch z
            · rw [upd_ne z]; exact q
        · rintro i m H2 ⟨hm, g, B2, Γ2, acc, ads, ce2, s2, bD, nD, hHD, ra, hla, hix, ys', ecy, ey⟩
          have lt2 : Later H1 B1 Γ1 H2 B2 Γ2 := s2.later ce1.ok
          by_cases hi : i < xs.length
          · obtain ⟨d, hd⟩ : ∃ d, xs[i]? = some d := ⟨xs[i], by simp [hi]⟩
            have edrop : xs.drop i = d :: xs.drop (i + 1) := by
              rw [List.drop_eq_getElem_cons hi]
              have := List.getElem?_eq_getElem hi
              rw [hd] at this
              injection this with this
              rw [← this]
            rw [edrop] at ecy
            obtain ⟨e1, g3, eb, hcase⟩ := compL_cons ecy
            refine .inr ⟨hJ.go i H2 B2 Γ2 lt2 hi, LcI S C e t c xs (wipeS t.ix env) H1 B1 Γ1 Dl ys g2 (i + 1), fun H' nx => ⟨xs.length - (i + 1), by omega, rfl, nx⟩, fun x H3 hy => ?_⟩
            obtain ⟨sm, rx⟩ := hJ.yld i H2 B2 Γ2 x H3 d lt2 ce2.ok hy hd
            have sl2 : Slots S H3 B2 Γ2 H0 (L2.wipe σ t.ix) (wipeS t.ix env) := Slots.wipe (((sl.step ce.ok s1).step ce1.ok s2).step ce2.ok (Same.step sm)) t.ix
            refine gOf_ok t d (wipeS t.ix env) e1 (L2.wipe σ t.ix) x _ eb sl2 rx fun σ2 sl3 w2 => ⟨w2.trans (wipe_wipe _ _), ?_⟩
            have ce3 : Cells S H3 g B2 Γ2 := ce2.same sm
            refine ⟨e1, g, B2, Γ2, sl3, ce3, ?_⟩
            rcases hcase with ⟨ec1, y, g5, zs, ef, er, eyz⟩ | ⟨ec1, er⟩
            · rw [ec1]
              intro H4 B4 Γ4 ce4 s4
              refine ⟨true, rfl, ?_⟩
              simp only [if_true]
              refine ⟨e1, g3, B4, Γ4, sl3.step ce3.ok s4, ce4, ?_⟩
              rw [ef]
              intro H5 B5 Γ5 ce5 s5 v rv _
              have sx : Step H1 B1 Γ1 H5 B5 Γ5 := ((s2.trans (Same.step sm)).trans s4).trans s5
              have s25 : Step H2 B2 Γ2 H5 B5 Γ5 := ((Same.step sm).trans s4).trans s5
              have hHD5 : H5 Dl = some (.lst acc) := s25.ext _ _ hHD nD
              have bD5 : B5 Dl := s25.bsub _ bD
              have nD5 : Dl ∉ Γ5 := fun z => by
                rcases s25.gnew _ z with z | z
                · exact nD z
                · rw [hHD] at z; cases z
              have ra5 : Reps S H5 B5 Γ5 acc ads := ra.step ce2.ok s25
              have hl5 : acc.length < lineN := by rw [ra.length]; omega
              have ext6 : ∀ b o, H5 b = some o → ¬ B5 b → upd H5 Dl (.lst (acc ++ [v])) b = some o := fun b o q nb => by
                have nz : b ≠ Dl := fun z => nb (by rw [z]; exact bD5)
                rw [upd_ne nz]; exact q
              refine ⟨acc, hHD5, Nat.lt_of_lt_of_le hl5 lineN_le, g5, B5, Γ5, acc ++ [v], ads ++ [y], ⟨⟨fun a b => ?_, ce5.ok.cell⟩, ce5.len, ce5.nd, ce5.nl, fun n ds q => ?_⟩, ⟨fun b o q n => ?_, sx.bsub, sx.bnew, sx.gpre, sx.gnew, fun b q => ?_⟩, bD5, nD5, upd_same, Reps.rew ce5.ok ext6 (ra5.append (.cons rv .nil)), ?_, hi, zs, er, ?_⟩
              · by_cases z : a = Dl
                · rw [z, upd_same]; exact .inl ⟨_, rfl⟩
                · rw [upd_ne z]; exact ce5.ok.kin a b
              · obtain ⟨a, vs, q1, q2, q3⟩ := ce5.at_ n ds q
                have : a ≠ Dl := fun z => nD5 (by rw [← z]; exact List.mem_of_getElem? q1)
                exact ⟨a, vs, q1, by rw [upd_ne this]; exact q2, Reps.rew ce5.ok ext6 q3⟩
              · have : b ≠ Dl := fun z => by rw [z, hD] at q; cases q
                rw [upd_ne this]; exact sx.ext b o q n
              · by_cases z : b = Dl
                · rw [z, upd_same]; exact fun z => nomatch z
                · rw [upd_ne z]; exact sx.live b q
              · rw [List.length_append]
                exact Nat.succ_le_succ hla
              · rw [ey, eyz, List.append_assoc]; rfl
            · rw [ec1]
              intro H4 B4 Γ4 ce4 s4
              refine ⟨false, rfl, ?_⟩
              simp only [Bool.false_eq_true, if_false]
              have s24 : Step H2 B2 Γ2 H4 B4 Γ4 := (Same.step sm).trans s4
              refine ⟨g3, B4, Γ4, acc, ads, ce4, s2.trans s24, s24.bsub _ bD, fun z => ?_, s24.ext _ _ hHD nD, ra.step ce2.ok s24, Nat.le_succ_of_le hla, hi, ys', er, ey⟩
              rcases s24.gnew _ z with z | z
              · exact nD z
              · rw [hHD] at z; cases z
          · have hie : i = xs.length := by omega
            subst hie
            refine .inl ⟨hJ.stop H2 B2 Γ2 lt2, ?_⟩
            rw [List.drop_length] at ecy
            injection ecy with e1 e2
            subst e1 e2
            rw [List.append_nil] at ey
            subst ey
            have less : ∀ a, (B2 a ∧ a ≠ Dl) → B2 a := fun a q => q.1
            have cef : Cells S H2 g (fun b => B2 b ∧ b ≠ Dl) Γ2 := ⟨⟨fun a b => ce2.ok.kin a b.1, fun a m => ⟨ce2.ok.cell a m, fun z => nD (by rw [← z]; exact m)⟩⟩, ce2.len, ce2.nd, ce2.nl, fun n ds q => let ⟨a, vs, q1, q2, q3⟩ := ce2.at_ n ds q; ⟨a, vs, q1, q2, q3.less less⟩⟩
            have sf : Step H1 B1 Γ1 H2 (fun b => B2 b ∧ b ≠ Dl) Γ2 := ⟨s2.ext, fun b q => ⟨s2.bsub b q, fun z => nB (by rw [← z]; exact q)⟩, fun b q => s2.bnew b q.1, s2.gpre, s2.gnew, s2.live⟩
            refine h1 H2 _ Γ2 cef sf (.ref Dl) (.lst hHD (fun z => z.2 rfl) (ra.less less)) fun _ => ?_
            refine s1.seqF (H1 := H1) (d := .lst ys) ⟨Dl, acc, rfl, hD, fun z => z.2 rfl, hHD, ra.less fun a q => ?_⟩
            rcases q with q | q
            · exact q.1
            · rw [q]; exact bD
    · rw [if_neg hz] at h1; exact h1.elim
end
end Rz

/-! RzS10 -/
set_option Elab.async false
set_option linter.all false
set_option maxRecDepth 100000
set_option maxHeartbeats 4000000
namespace Rz
open PySem PySem.Spec PyProof.Rows L2

/-! ### statements: what comes out -/
section
variable (S : Inf) (H0 : Hp) (B0 : Bad) (Γ0 : List Addr) (W : WX) (fr : Bool)
def OutS (H : Hp) (B : Bad) (Γ : List Addr) (r : SR) (D : Ends) : Prop := match r with
  | .nx env' g' => ∀ σ' H' B' Γ', Slots S H' B' Γ' H0 σ' env' → Cells S H' g' B' Γ' → Step H0 B0 Γ0 H' B' Γ' → Later H B Γ H' B' Γ' → D.nx σ' H'
  | .brk env' g' => ∀ σ' H' B' Γ', Slots S H' B' Γ' H0 σ' env' → Cells S H' g' B' Γ' → Step H0 B0 Γ0 H' B' Γ' → Later H B Γ H' B' Γ' → D.bk σ' H'
  | .cnt env' g' => ∀ σ' H' B' Γ', Slots S H' B' Γ' H0 σ' env' → Cells S H' g' B' Γ' → Step H0 B0 Γ0 H' B' Γ' → Later H B Γ H' B' Γ' → D.ct σ' H'
  | .ret d g' => ∀ H' B' Γ' v, Cells S H' g' B' Γ' → Step H0 B0 Γ0 H' B' Γ' → Rep S H' B' Γ' v d → (fr = true → FreshAt S H0 H' B' Γ' v d) → D.rt v H'
  | .exc c p env' g' => ∀ σ' H' B' Γ' cls dd, Slots S H' B' Γ' H0 σ' env' → Cells S H' g' B' Γ' → Step H0 B0 Γ0 H' B' Γ' → Later H B Γ H' B' Γ' → ExR S H' B' Γ' c p cls dd → W cls dd σ' H'
  | .no => False
def tS (C : Nat → List D → Gs → R D) (s : St) : TS := fun D σ H => ∃ env g B Γ, BadOk H0 B0 Γ0 ∧ Slots S H B Γ H0 σ env ∧ Cells S H g B Γ ∧ Step H0 B0 Γ0 H B Γ ∧ OutS S H0 B0 Γ0 W fr H B Γ (evS C s env g) D
def tSs (C : Nat → List D → Gs → R D) (s : List St) : TS := fun D σ H => ∃ env g B Γ, BadOk H0 B0 Γ0 ∧ Slots S H B Γ H0 σ env ∧ Cells S H g B Γ ∧ Step H0 B0 Γ0 H B Γ ∧ OutS S H0 B0 Γ0 W fr H B Γ (evSs C s env g) D
end
section
variable {S : Inf} {H0 Hs H H1 : Hp} {B0 Bs B B1 : Bad} {Γ0 Γs Γ Γ1 : List Addr} {W : WX} {fr : Bool} {C : Nat → List D → Gs → R D} {X : Cx} {Z : Ends} {σ : L2.St} {env : Env} {g : Gs}
theorem OutS.mono {r : SR} (l : Later Hs Bs Γs H B Γ) (h : OutS S H0 B0 Γ0 W fr Hs Bs Γs r Z) : OutS S H0 B0 Γ0 W fr H B Γ r Z := by
  cases r with
  | nx env' g' => exact fun σ' H' B' Γ' a b c e => h σ' H' B' Γ' a b c (l.trans e)
  | brk env' g' => exact fun σ' H' B' Γ' a b c e => h σ' H' B' Γ' a b c (l.trans e)
  | cnt env' g' => exact fun σ' H' B' Γ' a b c e => h σ' H' B' Γ' a b c (l.trans e)
  | ret d g' => exact h
  | exc c p env' g' => exact fun σ' H' B' Γ' cls dd a b c e => h σ' H' B' Γ' cls dd a b c (l.trans e)
  | no => exact h
/-- an expression in a statement -/
theorem OutS.to {r : R D} {f : D → Gs → SR} (sl : Slots S H B Γ H0 σ env) (ce : BadOk H B Γ) (s0 : Step H0 B0 Γ0 H B Γ) (l : Later Hs Bs Γs H B Γ) (h : OutS S H0 B0 Γ0 W fr Hs Bs Γs (r.to env f) Z) :
    Out S σ W H B Γ r fun d g1 H1 B1 Γ1 => OutS S H0 B0 Γ0 W fr Hs Bs Γs (f d g1) Z := by
  cases r with
  | ok d g1 => exact fun H1 B1 Γ1 c s => h
  | exc c p g1 => exact fun H1 B1 Γ1 cls dd c1 s x => h σ H1 B1 Γ1 cls dd (sl.step ce s) c1 (s0.trans s) (l.trans (s.later ce)) x
  | no => exact h
theorem law_asg {i : Nat} {e : Ex} (h : tS S H0 B0 Γ0 W fr C (.asg i e) Z σ H) : tAsg (tD S H0 W C e) (gName i) Z σ H := by
  obtain ⟨env, g, B, Γ, ok0, sl, ce, s0, h⟩ := h
  exact ⟨env, g, B, Γ, sl, ce, (OutS.to sl ce.ok s0 .refl h).imp fun d g1 H1 B1 Γ1 c s o v r _ => o _ H1 B1 Γ1 ((sl.step ce.ok s).setP r) c (s0.trans s) (s.later ce.ok)⟩
theorem law_asg2 {i j : Nat} {e : Ex} (h : tS S H0 B0 Γ0 W fr C (.asg2 i j e) Z σ H) : tAsg2 (tD S H0 W C e) (gName i) (gName j) Z σ H := by
  obtain ⟨env, g, B, Γ, ok0, sl, ce, s0, h⟩ := h
  exact ⟨env, g, B, Γ, sl, ce, (OutS.to sl ce.ok s0 .refl h).imp fun d g1 H1 B1 Γ1 c s o v r _ => o _ H1 B1 Γ1 (((sl.step ce.ok s).setP r).setP r) c (s0.trans s) (s.later ce.ok)⟩
theorem law_unp {t : Tg} {e : Ex} (h : tS S H0 B0 Γ0 W fr C (.unp t e) Z σ H) : tAsg (tD S H0 W C e) (gOf S.K t) Z σ H := by
  obtain ⟨env, g, B, Γ, ok0, sl, ce, s0, h⟩ := h
  refine ⟨env, g, B, Γ, sl, ce, (OutS.to sl ce.ok s0 .refl h).imp fun d g1 H1 B1 Γ1 c s o v r _ => ?_⟩
  cases eb : bindT t d env with
  | none => rw [eb] at o; exact o.elim
  | some env' =>
    rw [eb] at o
    exact gOf_ok t d env env' σ v _ eb (sl.step ce.ok s) r fun σ' sl' _ => o σ' H1 B1 Γ1 sl' c (s0.trans s) (s.later ce.ok)
/-- what is bad may grow by new things; the cells don't hold lists -/
theorem Cells.bad {B' : Bad} (c : Cells S H g B Γ) (h1 : ∀ a, B a → B' a) (h2 : ∀ a, B' a → (∃ xs, H a = some (.lst xs)) ∨ ∃ kvs, H a = some (.dK kvs)) : Cells S H g B' Γ :=
  ⟨⟨h2, fun a m => h1 a (c.ok.cell a m)⟩, c.len, c.nd, c.nl, fun n ds e => let ⟨a, vs, e1, e2, r⟩ := c.at_ n ds e; ⟨a, vs, e1, e2, Reps.noL trivial r (c.nl n ds e)⟩⟩
theorem Step.grow {B' : Bad} (s : Step H B Γ H1 B1 Γ1) (h1 : ∀ a, B1 a → B' a) (h2 : ∀ a, B' a → B1 a ∨ H a = none) : Step H B Γ H1 B' Γ1 :=
  ⟨s.ext, fun b q => h1 b (s.bsub b q), fun b q => (h2 b q).elim (s.bnew b) .inr, s.gpre, s.gnew, s.live⟩
theorem fresh_notin {p : Addr} (ok : BadOk H1 B1 Γ1) (h : ¬ B1 p) : p ∉ Γ1 := fun z => h (ok.cell _ z)
/-- a fresh list or dict: its place, as an own thing -/
theorem fresh_own {v : V} {d : D} (hl : isLst d = true) (fr : FreshAt S H H1 B1 Γ1 v d) :
    ∃ p, v = .ref p ∧ H p = none ∧ ¬ B1 p ∧ ((∃ xs, H1 p = some (.lst xs)) ∨ ∃ kvs, H1 p = some (.dK kvs)) ∧ OwnAt S H1 (fun b => B1 b ∨ b = p) Γ1 p d := by
  cases d with
  | lst ds => obtain ⟨p, vs, e1, e2, e3, e4, e5⟩ := fr; exact ⟨p, e1, e2, e3, .inl ⟨_, e4⟩, vs, e4, e5⟩
  | dic ks ws => obtain ⟨p, kvs, e1, e2, e3, e4, e5, e6⟩ := fr; exact ⟨p, e1, e2, e3, .inr ⟨_, e4⟩, kvs, e4, e5, e6⟩
  | _ => cases hl
theorem own_live {S : Inf} {H H0 : Hp} {B : Bad} {Γ : List Addr} {v : Option (Option V)} {s : Sl} {p : Addr} (h : SlotOk S H B Γ H0 v s) (ho : isO s) (e : v = some (some (.ref p))) : H p ≠ none := by
  cases s with
  | u => exact ho.elim
  | p d => exact ho.elim
  | o d =>
    obtain ⟨a, e', b, n, z, r⟩ := h
    rw [e] at e'
    cases e'
    exact r.live
theorem law_own {i : Nat} {e : Ex} (hf : isF S.T e = true) (h : tS S H0 B0 Γ0 W fr C (.own i e) Z σ H) : tAsg (tD S H0 W C e) (gName i) Z σ H := by
  obtain ⟨env, g, B, Γ, ok0, sl, ce, s0, h⟩ := h
  refine ⟨env, g, B, Γ, sl, ce, (OutS.to sl ce.ok s0 .refl h).imp fun d g1 H1 B1 Γ1 c s o v r fr => ?_⟩
  cases hl : isLst d with
  | false => rw [hl] at o; exact o.elim
  | true =>
    rw [hl] at o
    obtain ⟨p, rfl, hp, nb, hk, ow⟩ := fresh_own hl (fr hf)
    have sg : Step H B Γ H1 (fun b => B1 b ∨ b = p) Γ1 := s.grow (fun _ q => .inl q) fun a q => q.elim .inl fun z => .inr (by rw [z]; exact hp)
    refine o (σ.set i (some (.ref p))) H1 _ Γ1 ((sl.step ce.ok sg).setO (.inr rfl) (fresh_notin c.ok nb) (s0.back hp) ow fun j hj e => own_live (sl.at_ j) hj e hp) (c.bad (fun _ q => .inl q) fun a q => ?_) (s0.trans sg) (sg.later ce.ok)
    rcases q with q | q
    · exact c.ok.kin a q
    · rw [q]; exact hk
theorem law_ex {e : Ex} (h : tS S H0 B0 Γ0 W fr C (.ex e) Z σ H) : tDrop (tD S H0 W C e) Z σ H := by
  obtain ⟨env, g, B, Γ, ok0, sl, ce, s0, h⟩ := h
  exact ⟨env, g, B, Γ, sl, ce, (OutS.to sl ce.ok s0 .refl h).imp fun d g1 H1 B1 Γ1 c s o v r _ => o σ H1 B1 Γ1 (sl.step ce.ok s) c (s0.trans s) (s.later ce.ok)⟩
theorem law_ret {e : Ex} (hf : fr = true → isF S.T e = true) (h : tS S H0 B0 Γ0 W fr C (.ret e) Z σ H) : tRet (tD S H0 W C e) Z σ H := by
  obtain ⟨env, g, B, Γ, ok0, sl, ce, s0, h⟩ := h
  refine ⟨env, g, B, Γ, sl, ce, (OutS.to sl ce.ok s0 .refl h).imp fun d g1 H1 B1 Γ1 c s o v r f => o H1 B1 Γ1 v c (s0.trans s) r fun z => ?_⟩
  exact s0.seqF (f (hf z))
theorem law_retN (h : tS S H0 B0 Γ0 W fr C .retN Z σ H) : tRetN Z σ H := by
  obtain ⟨env, g, B, Γ, ok0, sl, ce, s0, h⟩ := h
  exact h H B Γ .non ce s0 .non fun _ => trivial
theorem law_pass (h : tS S H0 B0 Γ0 W fr C .pass Z σ H) : tNext Z σ H := by
  obtain ⟨env, g, B, Γ, ok0, sl, ce, s0, h⟩ := h
  exact h σ H B Γ sl ce s0 .refl
theorem law_brk (h : tS S H0 B0 Γ0 W fr C .brk Z σ H) : tBreak Z σ H := by
  obtain ⟨env, g, B, Γ, ok0, sl, ce, s0, h⟩ := h
  exact h σ H B Γ sl ce s0 .refl
theorem law_cnt (h : tS S H0 B0 Γ0 W fr C .cnt Z σ H) : tCont Z σ H := by
  obtain ⟨env, g, B, Γ, ok0, sl, ce, s0, h⟩ := h
  exact h σ H B Γ sl ce s0 .refl
theorem law_never {c : Nat} {a b : Ex} {es : List Ex} (h : tS S H0 B0 Γ0 W fr C (.rai c (a :: b :: es)) Z σ H) : tNever Z σ H := by
  obtain ⟨env, g, B, Γ, ok0, sl, ce, s0, h⟩ := h
  exact h
theorem law_nil (h : tSs S H0 B0 Γ0 W fr C [] Z σ H) : tNext Z σ H := by
  obtain ⟨env, g, B, Γ, ok0, sl, ce, s0, h⟩ := h
  exact h σ H B Γ sl ce s0 .refl
theorem law_cons {s : St} {ss : List St} (h : tSs S H0 B0 Γ0 W fr C (s :: ss) Z σ H) : tSeq (tS S H0 B0 Γ0 W fr C s) (tSs S H0 B0 Γ0 W fr C ss) Z σ H := by
  obtain ⟨env, g, B, Γ, ok0, sl, ce, s0, h⟩ := h
  refine ⟨env, g, B, Γ, ok0, sl, ce, s0, ?_⟩
  have h : OutS S H0 B0 Γ0 W fr H B Γ (match evS C s env g with | .nx env g => evSs C ss env g | r => r) Z := h
  cases e : evS C s env g with
  | nx env1 g1 =>
    rw [e] at h
    exact fun σ' H' B' Γ' sl1 c1 s1 l1 => ⟨env1, g1, B', Γ', ok0, sl1, c1, s1, h.mono l1⟩
  | brk env1 g1 => rw [e] at h; exact h
  | cnt env1 g1 => rw [e] at h; exact h
  | ret d g1 => rw [e] at h; exact h
  | exc c p env1 g1 => rw [e] at h; exact h
  | no => rw [e] at h; exact h
theorem law_ite {c : Ex} {a b : List St} (h : tS S H0 B0 Γ0 W fr C (.ite c a b) Z σ H) : tIfS (tDT S H0 W C c) (tSs S H0 B0 Γ0 W fr C a) (tSs S H0 B0 Γ0 W fr C b) Z σ H := by
  obtain ⟨env, g, B, Γ, ok0, sl, ce, s0, h⟩ := h
  refine ⟨env, g, B, Γ, sl, ce, (OutS.to sl ce.ok s0 .refl h).imp fun d g1 H1 B1 Γ1 c s o => ?_⟩
  cases d with
  | bl x =>
    refine ⟨x, rfl, ?_⟩
    cases x with
    | true => simp only [if_true]; exact ⟨env, g1, B1, Γ1, ok0, sl.step ce.ok s, c, s0.trans s, OutS.mono (s.later ce.ok) o⟩
    | false => simp only [Bool.false_eq_true, if_false]; exact ⟨env, g1, B1, Γ1, ok0, sl.step ce.ok s, c, s0.trans s, OutS.mono (s.later ce.ok) o⟩
  | _ => exact o.elim
theorem law_whl {c : Ex} {body : List St} (h : tS S H0 B0 Γ0 W fr C (.whl c body) Z σ H) : tWhile (tDT S H0 W C c) (tSs S H0 B0 Γ0 W fr C body) Z σ H := by
  obtain ⟨env, g, B, Γ, ok0, sl, ce, s0, h⟩ := h
  have h : OutS S H0 B0 Γ0 W fr H B Γ (whlL (fun env g => evE C c env g) (fun env g => evSs C body env g) WF env g) Z := h
  generalize WF = n at h
  refine ⟨fun m σ' H' => ∃ env g B Γ, Slots S H' B Γ H0 σ' env ∧ Cells S H' g B Γ ∧ Step H0 B0 Γ0 H' B Γ ∧ OutS S H0 B0 Γ0 W fr H' B Γ (whlL (fun env g => evE C c env g) (fun env g => evSs C body env g) m env g) Z, ⟨n, env, g, B, Γ, sl, ce, s0, h⟩, ?_⟩
  rintro m σ1 H1 ⟨env1, g1, B1, Γ1, sl1, ce1, s1, h1⟩
  cases m with
  | zero => exact h1.elim
  | succ k =>
    refine ⟨env1, g1, B1, Γ1, sl1, ce1, ?_⟩
    unfold whlL at h1
    cases e : evE C c env1 g1 with
    | no => rw [e] at h1; exact h1
    | exc a b g2 =>
      rw [e] at h1
      exact fun H2 B2 Γ2 cls dd c2 s2 x => h1 σ1 H2 B2 Γ2 cls dd (sl1.step ce1.ok s2) c2 (s1.trans s2) (s2.later ce1.ok) x
    | ok d g2 =>
      rw [e] at h1
      intro H2 B2 Γ2 c2 s2
      cases d with
      | bl b =>
        refine ⟨b, rfl, ?_⟩
        cases b with
        | false =>
          simp only [Bool.false_eq_true, if_false]
          exact h1 σ1 H2 B2 Γ2 (sl1.step ce1.ok s2) c2 (s1.trans s2) (s2.later ce1.ok)
        | true =>
          simp only [if_true]
          simp only at h1
          refine ⟨fun σ' H' => ∃ env g B Γ, Slots S H' B Γ H0 σ' env ∧ Cells S H' g B Γ ∧ Step H0 B0 Γ0 H' B Γ ∧ OutS S H0 B0 Γ0 W fr H' B Γ (whlL (fun env g => evE C c env g) (fun env g => evSs C body env g) k env g) Z, fun σ' H' x => ⟨k, Nat.lt_succ_self k, x⟩, ?_⟩
          refine ⟨env1, g2, B2, Γ2, ok0, sl1.step ce1.ok s2, c2, s1.trans s2, ?_⟩
          cases e3 : evSs C body env1 g2 with
          | nx env3 g3 =>
            rw [e3] at h1
            exact fun σ' H' B' Γ' sl3 c3 s3 l3 => ⟨env3, g3, B', Γ', sl3, c3, s3, h1.mono ((s2.later ce1.ok).trans l3)⟩
          | cnt env3 g3 =>
            rw [e3] at h1
            exact fun σ' H' B' Γ' sl3 c3 s3 l3 => ⟨env3, g3, B', Γ', sl3, c3, s3, h1.mono ((s2.later ce1.ok).trans l3)⟩
          | brk env3 g3 =>
            rw [e3] at h1
            exact fun σ' H' B' Γ' sl3 c3 s3 l3 => h1 σ' H' B' Γ' sl3 c3 s3 ((s2.later ce1.ok).trans l3)
          | ret d g3 => rw [e3] at h1; exact h1
          | exc a b env3 g3 =>
            rw [e3] at h1
            exact fun σ' H' B' Γ' cls dd sl3 c3 s3 l3 x => h1 σ' H' B' Γ' cls dd sl3 c3 s3 ((s2.later ce1.ok).trans l3) x
          | no => rw [e3] at h1; exact h1
      | _ => exact h1.elim
theorem OutS.tos {r : R (List D)} {f : List D → Gs → SR} (sl : Slots S H B Γ H0 σ env) (ce : BadOk H B Γ) (s0 : Step H0 B0 Γ0 H B Γ) (l : Later Hs Bs Γs H B Γ) (h : OutS S H0 B0 Γ0 W fr Hs Bs Γs (match r with | .ok ds g => f ds g | .exc c p g => .exc c p env g | .no => .no) Z) :
    Out S σ W H B Γ r fun d g1 H1 B1 Γ1 => OutS S H0 B0 Γ0 W fr Hs Bs Γs (f d g1) Z := by
  cases r with
  | ok d g1 => exact fun H1 B1 Γ1 c s => h
  | exc c p g1 => exact fun H1 B1 Γ1 cls dd c1 s x => h σ H1 B1 Γ1 cls dd (sl.step ce s) c1 (s0.trans s) (l.trans (s.later ce)) x
  | no => exact h
def forF (C : Nat → List D → Gs → R D) (t : Tg) (k : ItK) (body : List St) (env : Env) : List D → Gs → SR := fun ds g => match items k ds with
  | some xs => forL (fun env g => evSs C body env g) t xs env g
  | none => .no
theorem law_for {t : Tg} {k : ItK} {es : List Ex} {body : List St} (h : tS S H0 B0 Γ0 W fr C (.for_ t k es body) Z σ H) : tFor (tIt S H0 W C k es) (gOf S.K t) (tSs S H0 B0 Γ0 W fr C body) Z σ H := by
  obtain ⟨env, g, B, Γ, ok0, sl, ce, s0, h⟩ := h
  have h : OutS S H0 B0 Γ0 W fr H B Γ (match evEs C es env g with | .ok ds g => forF C t k body env ds g | .exc c p g => .exc c p env g | .no => .no) Z := h
  refine ⟨env, g, B, Γ, sl, ce, (OutS.tos sl ce.ok s0 .refl h).imp fun ds g1 H1 B1 Γ1 ce1 s1 o => ?_⟩
  unfold forF at o
  cases ei : items k ds with
  | none => rw [ei] at o; exact o.elim
  | some xs =>
    rw [ei] at o
    refine ⟨xs, rfl, fun J hJ => ?_⟩
    have o := OutS.mono (s1.later ce.ok) o
    refine ⟨fun i m σ' H' => m = xs.length - i ∧ i ≤ xs.length ∧ ∃ env g B Γ, Slots S H' B Γ H0 σ' env ∧ Cells S H' g B Γ ∧ Step H0 B0 Γ0 H' B Γ ∧ Later H1 B1 Γ1 H' B Γ ∧ OutS S H0 B0 Γ0 W fr H' B Γ (forL (fun env g => evSs C body env g) t (xs.drop i) env g) Z,
      ⟨_, rfl, Nat.zero_le _, env, g1, B1, Γ1, sl.step ce.ok s1, ce1, s0.trans s1, .refl, by rw [List.drop_zero]; exact o⟩, ?_⟩
    rintro i m σ2 H2 ⟨hm, hi, env2, g2, B2, Γ2, sl2, ce2, s2, l2, o2⟩
    by_cases hlt : i < xs.length
    · have edrop : xs.drop i = xs[i] :: xs.drop (i + 1) := List.drop_eq_getElem_cons hlt
      have hd : xs[i]? = some xs[i] := List.getElem?_eq_getElem hlt
      generalize xs[i] = d at edrop hd
      rw [edrop] at o2
      unfold forL at o2
      refine .inr ⟨hJ.go i H2 B2 Γ2 l2 hlt, fun σ' H' => ∃ env g B Γ, Slots S H' B Γ H0 σ' env ∧ Cells S H' g B Γ ∧ Step H0 B0 Γ0 H' B Γ ∧ Later H1 B1 Γ1 H' B Γ ∧ OutS S H0 B0 Γ0 W fr H' B Γ (forL (fun env g => evSs C body env g) t (xs.drop (i + 1)) env g) Z,
        fun σ' H' x => ⟨xs.length - (i + 1), by omega, rfl, hlt, x⟩, fun x H3 hy => ?_⟩
      obtain ⟨sm, rx⟩ := hJ.yld i H2 B2 Γ2 x H3 d l2 ce2.ok hy hd
      cases eb : bindT t d env2 with
      | none => rw [eb] at o2; exact o2.elim
      | some e3 =>
        rw [eb] at o2
        simp only at o2
        refine gOf_ok t d env2 e3 σ2 x _ eb (sl2.step ce2.ok (Same.step sm)) rx fun σ3 sl3 _ => ?_
        refine ⟨e3, g2, B2, Γ2, ok0, sl3, ce2.same sm, s2.trans (Same.step sm), ?_⟩
        have l3 : Later H2 B2 Γ2 H3 B2 Γ2 := Same.later sm
        cases e4 : evSs C body e3 g2 with
        | nx env4 g4 =>
          rw [e4] at o2
          exact fun σ' H' B' Γ' sl4 c4 s4 l4 => ⟨env4, g4, B', Γ', sl4, c4, s4, (l2.trans l3).trans l4, o2.mono (l3.trans l4)⟩
        | cnt env4 g4 =>
          rw [e4] at o2
          exact fun σ' H' B' Γ' sl4 c4 s4 l4 => ⟨env4, g4, B', Γ', sl4, c4, s4, (l2.trans l3).trans l4, o2.mono (l3.trans l4)⟩
        | brk env4 g4 =>
          rw [e4] at o2
          exact fun σ' H' B' Γ' sl4 c4 s4 l4 => o2 σ' H' B' Γ' sl4 c4 s4 (l3.trans l4)
        | ret d g4 => rw [e4] at o2; exact o2
        | exc a b env4 g4 =>
          rw [e4] at o2
          exact fun σ' H' B' Γ' cls dd sl4 c4 s4 l4 x => o2 σ' H' B' Γ' cls dd sl4 c4 s4 (l3.trans l4) x
        | no => rw [e4] at o2; exact o2
    · have hie : i = xs.length := by omega
      subst hie
      rw [List.drop_length] at o2
      exact .inl ⟨hJ.stop H2 B2 Γ2 l2, o2 σ2 H2 B2 Γ2 sl2 ce2 s2 .refl⟩
end
end Rz

/-! RzS11 -/
set_option Elab.async false
set_option linter.all false
set_option maxRecDepth 100000
set_option maxHeartbeats 4000000
namespace Rz
open PySem PySem.Spec PyProof.Rows L2

section
variable {S : Inf} {H0 Hs H H1 : Hp} {B0 Bs B B1 : Bad} {Γ0 Γs Γ Γ1 : List Addr} {W : WX} {fr : Bool} {C : Nat → List D → Gs → R D} {X : Cx} {Z : Ends} {σ : L2.St} {env : Env} {g : Gs}
theorem getS_lt : ∀ {env : Env} {i : Nat}, isO (getS env i) → i < env.length
  | [], _, h => h.elim
  | _ :: _, 0, _ => Nat.succ_pos _
  | _ :: r, i + 1, h => Nat.succ_lt_succ (getS_lt (env := r) h)
/-- an own thing at a is rewritten -/
theorem Slots.write {i : Nat} {a : Addr} {d d' : D} {o' : HO} (h : Slots S H B Γ H0 σ env) (ok : BadOk H B Γ) (e : getS env i = .o d) (ea : σ[i]? = some (some (.ref a))) (b : B a) (ow : OwnAt S (upd H a o') B Γ a d') :
    Slots S (upd H a o') B Γ H0 σ (setS env i (.o d')) := by
  have oi : isO (getS env i) := by rw [e]; trivial
  have hi : i < env.length := getS_lt oi
  have ext : ∀ c o, H c = some o → ¬ B c → upd H a o' c = some o := fun c o q nb => by
    have : c ≠ a := fun z => nb (by rw [z]; exact b)
    rw [upd_ne this]; exact q
  refine ⟨by rw [setS_len]; exact h.len, fun j => ?_, fun j k x ne hj hk e1 e2 => ?_⟩
  · rw [getS_setS]
    by_cases c : i = j ∧ i < env.length
    · rw [if_pos c, ← c.1, ea]
      have q := h.at_ i
      rw [e] at q
      obtain ⟨a', e', b', n', z', r'⟩ := q
      rw [ea] at e'
      cases e'
      exact ⟨a, rfl, b', n', z', ow⟩
    · rw [if_neg c]
      have q := h.at_ j
      cases es : getS env j with
      | u => trivial
      | p dd =>
        rw [es] at q
        obtain ⟨x, e1, r⟩ := q
        exact ⟨x, e1, r.rew ok ext⟩
      | o dd =>
        rw [es] at q
        obtain ⟨x, e1, b1, n1, z1, r1⟩ := q
        have hij : i ≠ j := fun z => c ⟨z, hi⟩
        have nx : x ≠ a := fun z => h.apart i j a hij oi (by rw [es]; trivial) ea (by rw [e1, z])
        refine ⟨x, e1, b1, n1, z1, ?_⟩
        cases dd with
        | lst ds => obtain ⟨vs, q1, q2⟩ := r1; exact ⟨vs, by rw [upd_ne nx]; exact q1, q2.rew ok ext⟩
        | dic ks ws => obtain ⟨kvs, q1, q2, q3⟩ := r1; exact ⟨kvs, by rw [upd_ne nx]; exact q1, q2, q3.rew ok ext⟩
        | _ => exact r1.elim
  · have fix : ∀ m, isO (getS (setS env i (.o d')) m) → isO (getS env m) := fun m hm => by
      rw [getS_setS] at hm
      by_cases c : i = m ∧ i < env.length
      · rw [← c.1]; exact oi
      · rw [if_neg c] at hm; exact hm
    exact h.apart j k x ne (fix j hj) (fix k hk) e1 e2
theorem Cells.write {a : Addr} {o' : HO} (c : Cells S H g B Γ) (na : a ∉ Γ) (b : B a) (hk : (∃ xs, o' = .lst xs) ∨ ∃ kvs, o' = .dK kvs) : Cells S (upd H a o') g B Γ := by
  have ext : ∀ c o, H c = some o → ¬ B c → upd H a o' c = some o := fun c o q nb => by
    have : c ≠ a := fun z => nb (by rw [z]; exact b)
    rw [upd_ne this]; exact q
  refine ⟨⟨fun x bx => ?_, c.ok.cell⟩, c.len, c.nd, c.nl, fun n ds e => ?_⟩
  · by_cases z : x = a
    · rw [z, upd_same]
      rcases hk with ⟨xs, e⟩ | ⟨kvs, e⟩
      · exact .inl ⟨xs, by rw [e]⟩
      · exact .inr ⟨kvs, by rw [e]⟩
    · rw [upd_ne z]; exact c.ok.kin x bx
  · obtain ⟨x, vs, e1, e2, r⟩ := c.at_ n ds e
    have : x ≠ a := fun z => na (by rw [← z]; exact List.mem_of_getElem? e1)
    exact ⟨x, vs, e1, by rw [upd_ne this]; exact e2, r.rew c.ok ext⟩
theorem Step.write {a : Addr} {o' : HO} (s : Step H0 B0 Γ0 H B Γ) (z : H0 a = none) : Step H0 B0 Γ0 (upd H a o') B Γ :=
  ⟨fun b o e n => by
    have : b ≠ a := fun q => by rw [q, z] at e; cases e
    rw [upd_ne this]; exact s.ext b o e n, s.bsub, s.bnew, s.gpre, s.gnew, fun b n => by
    by_cases q : b = a
    · rw [q, upd_same]; exact fun z => nomatch z
    · rw [upd_ne q]; exact s.live b n⟩
theorem Later.write {a : Addr} {o' : HO} (b : B a) : Later H B Γ (upd H a o') B Γ :=
  ⟨fun c o e n => by
    have : c ≠ a := fun q => n (by rw [q]; exact b)
    rw [upd_ne this]; exact e, fun _ q => .inl q, fun _ _ e => e, fun c n => by
    by_cases q : c = a
    · rw [q, upd_same]; exact fun z => nomatch z
    · rw [upd_ne q]; exact n⟩
theorem own_at {i : Nat} {d : D} (sl : Slots S H B Γ H0 σ env) (e : getS env i = .o d) : ∃ a, σ[i]? = some (some (.ref a)) ∧ B a ∧ a ∉ Γ ∧ H0 a = none ∧ OwnAt S H B Γ a d := by
  have q := sl.at_ i
  rw [e] at q
  exact q
theorem ext_write {a : Addr} {o' : HO} (b : B a) : ∀ c o, H c = some o → ¬ B c → upd H a o' c = some o := fun c o q nb => by
  have : c ≠ a := fun z => nb (by rw [z]; exact b)
  rw [upd_ne this]; exact q
theorem noLs_set : ∀ {ds : List D} {d : D} , D.noLs ds = true → D.noL d = true → ∀ m : Nat, D.noLs (ds.set m d) = true
  | [], _, h, _, _ => h
  | x :: ds, d, h, hd, 0 => by
    rw [D.noLs, Bool.and_eq_true] at h
    show D.noLs (d :: ds) = true
    rw [D.noLs, hd, h.2]; rfl
  | x :: ds, d, h, hd, m + 1 => by
    rw [D.noLs, Bool.and_eq_true] at h
    show D.noLs (x :: ds.set m d) = true
    rw [D.noLs, h.1, noLs_set h.2 hd m]; rfl
theorem nd_ix {α : Type} : ∀ {l : List α} {i j : Nat} {x : α}, l.Nodup → l[i]? = some x → l[j]? = some x → i = j
  | [], _, _, _, _, h, _ => by simp at h
  | y :: l, 0, 0, _, _, _, _ => rfl
  | y :: l, 0, j + 1, x, nd, h1, h2 => by
    simp only [List.getElem?_cons_zero, Option.some.injEq] at h1
    simp only [List.getElem?_cons_succ] at h2
    exact absurd (List.mem_of_getElem? h2) (by rw [← h1]; exact (List.nodup_cons.mp nd).1)
  | y :: l, i + 1, 0, x, nd, h1, h2 => by
    simp only [List.getElem?_cons_zero, Option.some.injEq] at h2
    simp only [List.getElem?_cons_succ] at h1
    exact absurd (List.mem_of_getElem? h1) (by rw [← h2]; exact (List.nodup_cons.mp nd).1)
  | y :: l, i + 1, j + 1, x, nd, h1, h2 => by
    simp only [List.getElem?_cons_succ] at h1 h2
    rw [nd_ix (List.nodup_cons.mp nd).2 h1 h2]
theorem law_app {i : Nat} {e : Ex} (h : tS S H0 B0 Γ0 W fr C (.app i e) Z σ H) : tDrop (tBM S.K "list" rAppend (tVar i) (tDs S H0 W C [e])) Z σ H := by
  obtain ⟨env, g, B, Γ, ok0, sl, ce, s0, h⟩ := h
  have h : OutS S H0 B0 Γ0 W fr H B Γ (match getS env i with
    | .o (.lst ds) => (evE C e env g).to env fun d g => if Nat.blt ds.length lineN then .nx (setS env i (.o (.lst (ds ++ [d])))) g else .no
    | _ => .no) Z := h
  cases es : getS env i with
  | u => rw [es] at h; exact h.elim
  | p d => rw [es] at h; exact h.elim
  | o d =>
    rw [es] at h
    cases d with
    | lst ds =>
      obtain ⟨a, ea, ba, na, za, ow⟩ := own_at sl es
      obtain ⟨xs, hxs, _⟩ := id ow
      refine ⟨.ref a, ea, .inl ⟨rfl, xs, SqL.of hxs⟩, ?_⟩
      refine ⟨env, g, B, Γ, sl, ce, ?_⟩
      have h1 := OutS.to sl ce.ok s0 .refl h
      have h2 : Out S σ W H B Γ ((evE C e env g).bind fun d g => .ok [d] g) fun ds' g1 H1 B1 Γ1 => ∃ d, ds' = [d] ∧ OutS S H0 B0 Γ0 W fr H B Γ (if Nat.blt ds.length lineN then .nx (setS env i (.o (.lst (ds ++ [d])))) g1 else .no) Z := by
        cases ee : evE C e env g with
        | ok d g1 => rw [ee] at h1; exact fun H1 B1 Γ1 c s => ⟨d, rfl, h1 H1 B1 Γ1 c s⟩
        | exc c p g1 => rw [ee] at h1; exact h1
        | no => rw [ee] at h1; exact h1
      refine Out.imp h2 fun ds' g1 H1 B1 Γ1 c s ⟨d, ed, o⟩ vs r => ?_
      subst ed
      obtain ⟨v, rfl, rv⟩ := reps1 r
      by_cases hz : Nat.blt ds.length lineN = true
      · rw [if_pos hz] at o
        have hz : ds.length < lineN := Nat.le_of_ble_eq_true hz
        have sl1 := sl.step ce.ok s
        obtain ⟨a', ea', ba', na', za', xs1, hxs1, rx1⟩ := own_at sl1 es
        rw [ea] at ea'
        cases ea'
        refine ⟨a, xs1, v, rfl, rfl, hxs1, by rw [rx1.length]; exact Nat.lt_of_lt_of_le hz lineN_le, ?_⟩
        refine o σ _ B1 Γ1 (sl1.write c.ok es ea ba' ⟨_, upd_same, (rx1.append (.cons rv .nil)).rew c.ok (ext_write ba')⟩) (c.write na' ba' (.inl ⟨_, rfl⟩)) ((s0.trans s).write za') ((s.later ce.ok).trans (.write ba'))
      · rw [if_neg hz] at o; exact o.elim
    | _ => exact h.elim
/-! frozen, a cell -/
theorem getS_frzS : ∀ (env : Env) (i j : Nat), getS (frzS env i) j = if i = j then (getS env j).fr else getS env j
  | [], i, j => by simp [frzS, getS, Sl.fr]
  | a :: r, 0, 0 => by simp [frzS, getS]
  | a :: r, 0, j + 1 => by simp [frzS, getS]
  | a :: r, i + 1, 0 => by simp [frzS, getS]
  | a :: r, i + 1, j + 1 => by
    have := getS_frzS r i j
    simp only [frzS, getS, Nat.add_right_cancel_iff]
    exact this
theorem frzS_len : ∀ (env : Env) (i : Nat), (frzS env i).length = env.length
  | [], _ => rfl
  | _ :: r, 0 => rfl
  | _ :: r, i + 1 => by simp [frzS, frzS_len r i]
theorem frz1 (i : Nat) (sl : Slots S H B Γ H0 σ env) (ce : Cells S H g B Γ) :
    ∃ B' : Bad, Slots S H B' Γ H0 σ (frzS env i) ∧ Cells S H g B' Γ ∧ (∀ a, B' a → B a) ∧ (∀ a, B a → B' a ∨ (H0 a = none ∧ a ∉ Γ)) := by
  by_cases ho : isO (getS env i)
  · obtain ⟨d, es⟩ : ∃ d, getS env i = .o d := by
      cases es : getS env i with
      | u => rw [es] at ho; exact ho.elim
      | p d => rw [es] at ho; exact ho.elim
      | o d => exact ⟨d, rfl⟩
    obtain ⟨a, ea, ba, na, za, ow⟩ := own_at sl es
    have less : ∀ b, (B b ∧ b ≠ a) → B b := fun b q => q.1
    refine ⟨fun b => B b ∧ b ≠ a, ⟨by rw [frzS_len]; exact sl.len, fun j => ?_, fun j k x ne hj hk e1 e2 => ?_⟩, ⟨⟨fun b q => ce.ok.kin b q.1, fun b m => ⟨ce.ok.cell b m, fun z => na (by rw [← z]; exact m)⟩⟩, ce.len, ce.nd, ce.nl, fun n ds e => let ⟨x, vs, e1, e2, r⟩ := ce.at_ n ds e; ⟨x, vs, e1, e2, r.less less⟩⟩,
      less, fun b q => by
        by_cases z : b = a
        · exact .inr (by rw [z]; exact ⟨za, na⟩)
        · exact .inl ⟨q, z⟩⟩
    · rw [getS_frzS]
      by_cases c : i = j
      · subst c
        rw [if_pos rfl, es, ea]
        refine ⟨.ref a, rfl, ?_⟩
        cases d with
        | lst ds => obtain ⟨vs, e1, r⟩ := ow; exact .lst e1 (fun z => z.2 rfl) (r.less less)
        | dic ks ws => obtain ⟨kvs, e1, e2, r⟩ := ow; exact .dic e1 (fun z => z.2 rfl) e2 (r.less less)
        | _ => exact ow.elim
      · rw [if_neg c]
        have q := sl.at_ j
        cases es2 : getS env j with
        | u => trivial
        | p dd => rw [es2] at q; obtain ⟨x, e1, r⟩ := q; exact ⟨x, e1, r.less less⟩
        | o dd =>
          rw [es2] at q
          obtain ⟨x, e1, b1, n1, z1, r1⟩ := q
          have nx : x ≠ a := fun z => sl.apart i j a c ho (by rw [es2]; trivial) ea (by rw [e1, z])
          refine ⟨x, e1, ⟨b1, nx⟩, n1, z1, ?_⟩
          cases dd with
          | lst ds => obtain ⟨vs, q1, q2⟩ := r1; exact ⟨vs, q1, q2.less less⟩
          | dic ks ws => obtain ⟨kvs, q1, q2, q3⟩ := r1; exact ⟨kvs, q1, q2, q3.less less⟩
          | _ => exact r1.elim
    · have fix : ∀ m, isO (getS (frzS env i) m) → isO (getS env m) := fun m hm => by
        rw [getS_frzS] at hm
        by_cases c : i = m
        · subst c; exact ho
        · rw [if_neg c] at hm; exact hm
      exact sl.apart j k x ne (fix j hj) (fix k hk) e1 e2
  · refine ⟨B, ⟨by rw [frzS_len]; exact sl.len, fun j => ?_, fun j k x ne hj hk e1 e2 => ?_⟩, ce, fun _ q => q, fun _ q => .inl q⟩
    · rw [getS_frzS]
      by_cases c : i = j
      · subst c
        rw [if_pos rfl]
        have q := sl.at_ i
        cases es : getS env i with
        | u => trivial
        | p d => rw [es] at q; exact q
        | o d => rw [es] at ho; exact (ho trivial).elim
      · rw [if_neg c]; exact sl.at_ j
    · have fix : ∀ m, isO (getS (frzS env i) m) → isO (getS env m) := fun m hm => by
        rw [getS_frzS] at hm
        by_cases c : i = m
        · subst c
          rw [if_pos rfl] at hm
          cases es : getS env i with
          | u => rw [es] at hm; exact hm
          | p d => rw [es] at hm; exact hm
          | o d => trivial
        · rw [if_neg c] at hm; exact hm
      exact sl.apart j k x ne (fix j hj) (fix k hk) e1 e2
theorem frzL : ∀ (is : List Nat) {env : Env} {B : Bad}, Slots S H B Γ H0 σ env → Cells S H g B Γ →
    ∃ B' : Bad, Slots S H B' Γ H0 σ (frz is env) ∧ Cells S H g B' Γ ∧ (∀ a, B' a → B a) ∧ (∀ a, B a → B' a ∨ (H0 a = none ∧ a ∉ Γ))
  | [], _, B, sl, ce => ⟨B, sl, ce, fun _ q => q, fun _ q => .inl q⟩
  | i :: is, _, B, sl, ce => by
    obtain ⟨B1, sl1, ce1, l1, k1⟩ := frz1 i sl ce
    obtain ⟨B2, sl2, ce2, l2, k2⟩ := frzL is sl1 ce1
    exact ⟨B2, sl2, ce2, fun a q => l1 a (l2 a q), fun a q => (k1 a q).elim (k2 a) .inr⟩
theorem law_frz {is : List Nat} {ss : List St} (h : tSs S H0 B0 Γ0 W fr C (.frz is :: ss) Z σ H) : tSs S H0 B0 Γ0 W fr C ss Z σ H := by
  obtain ⟨env, g, B, Γ, ok0, sl, ce, s0, h⟩ := h
  have h : OutS S H0 B0 Γ0 W fr H B Γ (evSs C ss (frz is env) g) Z := h
  obtain ⟨B', sl', ce', l', k'⟩ := frzL is sl ce
  refine ⟨frz is env, g, B', Γ, ok0, sl', ce', ⟨s0.ext, fun b q => ?_, fun b q => s0.bnew b (l' b q), s0.gpre, s0.gnew, s0.live⟩, h.mono ⟨fun _ _ e _ => e, fun b q => .inl (l' b q), fun _ _ e => e, fun _ q => q⟩⟩
  rcases k' b (s0.bsub b q) with z | z
  · exact z
  · exact absurd z.1 (ok0.live q)
/-- own things frozen for one expression -/
theorem fz_out {is : List Nat} {e : Ex} {Q : D → Gs → Hp → Bad → List Addr → Prop} (sl : Slots S H B Γ H0 σ env) (ce : Cells S H g B Γ)
    (h : Out S σ W H B Γ (evE C (.fz is e) env g) Q) : ∃ B', Slots S H B' Γ H0 σ (frz is env) ∧ Cells S H g B' Γ ∧
      Out S σ W H B' Γ (evE C e (frz is env) g) fun d g' H' B1 Γ' => D.noL d = true ∧ ∃ B2, Q d g' H' B2 Γ' := by
  obtain ⟨B', sl', ce', l', k'⟩ := frzL (H0 := H0) is sl ce
  refine ⟨B', sl', ce', ?_⟩
  have h : Out S σ W H B Γ (match evE C e (frz is env) g with | .ok d g => if D.noL d then .ok d g else .no | _ => .no) Q := h
  cases ee : evE C e (frz is env) g with
  | exc c p g' => rw [ee] at h; exact h.elim
  | no => rw [ee] at h; exact h.elim
  | ok d g' =>
    rw [ee] at h
    simp only at h
    by_cases hn : D.noL d = true
    · rw [if_pos hn] at h
      refine fun H' B1 Γ' c s => ⟨hn, fun b => B1 b ∨ B b, h H' _ Γ' (c.bad (fun _ q => .inl q) fun a q => ?_) ⟨s.ext, fun b q => .inr q, fun b q => ?_, s.gpre, s.gnew, s.live⟩⟩
      · rcases q with q | q
        · exact c.ok.kin a q
        · rcases k' a q with z | z
          · exact c.ok.kin a (s.bsub a z)
          · rcases ce.ok.kin a q with ⟨xs, e⟩ | ⟨kvs, e⟩
            · exact .inl ⟨xs, s.ext _ _ e z.2⟩
            · exact .inr ⟨kvs, s.ext _ _ e z.2⟩
      · rcases q with q | q
        · exact (s.bnew b q).elim (fun z => .inl (l' b z)) .inr
        · exact .inl q
    · rw [if_neg hn] at h; exact h.elim
theorem law_fz {is : List Nat} {e : Ex} {Q : VK} (h : tD S H0 W C (.fz is e) σ H Q) : tD S H0 W C e σ H Q := by
  obtain ⟨env, g, B, Γ, sl, ce, h⟩ := h
  obtain ⟨B', sl', ce', h⟩ := fz_out sl ce h
  exact ⟨_, g, B', Γ, sl', ce', h.imp fun d g' H' B1 Γ' c s ⟨hn, B2, q⟩ v r _ => q v (Rep.noL trivial r hn) fun z => nomatch z⟩
theorem law_fzT {is : List Nat} {e : Ex} {Q : Bool → Hp → Prop} (h : tDT S H0 W C (.fz is e) σ H Q) : tDT S H0 W C e σ H Q := by
  obtain ⟨env, g, B, Γ, sl, ce, h⟩ := h
  obtain ⟨B', sl', ce', h⟩ := fz_out sl ce h
  exact ⟨_, g, B', Γ, sl', ce', h.imp fun d g' H' B1 Γ' c s ⟨hn, B2, q⟩ => q⟩
theorem law_cel {i : Nat} {e : Ex} (hf : isF S.T e = true) (h : tS S H0 B0 Γ0 W fr C (.cel i e) Z σ H) : tAsg (tD S H0 W C e) (gName i) Z σ H := by
  obtain ⟨env, g, B, Γ, ok0, sl, ce, s0, h⟩ := h
  refine ⟨env, g, B, Γ, sl, ce, (OutS.to sl ce.ok s0 .refl h).imp fun d g1 H1 B1 Γ1 c s o v r f => ?_⟩
  cases d with
  | lst ds =>
    simp only at o
    by_cases hn : D.noLs ds = true
    · rw [if_pos hn] at o
      obtain ⟨p, vs, rfl, hp, nb, hv, rv⟩ := f hf
      have np : p ∉ Γ1 := fresh_notin c.ok nb
      have glen : (Γ1 ++ [p])[g1.length]? = some p := by rw [← c.len]; simp
      have gpre : ∀ (n : Nat) (a : Addr), Γ1[n]? = some a → (Γ1 ++ [p])[n]? = some a := fun n a q => by
        rw [List.getElem?_append_left (List.getElem?_eq_some_iff.mp q).1]; exact q
      have sg : Step H B Γ H1 (fun b => B1 b ∨ b = p) (Γ1 ++ [p]) := ⟨s.ext, fun b q => .inl (s.bsub b q), fun b q => q.elim (s.bnew b) fun z => .inr (by rw [z]; exact hp), fun n a q => gpre n a (s.gpre n a q), fun b q => by
        rcases List.mem_append.mp q with q | q
        · exact s.gnew b q
        · rw [List.mem_singleton.mp q]; exact .inr hp, s.live⟩
      have l2 : Later H1 B1 Γ1 H1 B1 (Γ1 ++ [p]) := ⟨fun _ _ e _ => e, fun _ q => .inl q, gpre, fun _ q => q⟩
      have cg : Cells S H1 (g1 ++ [ds]) (fun b => B1 b ∨ b = p) (Γ1 ++ [p]) := by
        refine ⟨⟨fun a q => ?_, fun a q => ?_⟩, by rw [List.length_append, List.length_append, c.len]; rfl, ?_, fun n es e => ?_, fun n es e => ?_⟩
        · rcases q with q | q
          · exact c.ok.kin a q
          · rw [q]; exact .inl ⟨_, hv⟩
        · rcases List.mem_append.mp q with q | q
          · exact .inl (c.ok.cell a q)
          · exact .inr (List.mem_singleton.mp q)
        · refine List.nodup_append.mpr ⟨c.nd, by simp, fun a ha b hb => ?_⟩
          rw [List.mem_singleton.mp hb]
          exact fun z => np (by rw [← z]; exact ha)
        · by_cases q : n < g1.length
          · rw [List.getElem?_append_left q] at e; exact c.nl n es e
          · rw [List.getElem?_append_right (by omega)] at e
            have : n - g1.length = 0 := by
              have := (List.getElem?_eq_some_iff.mp e).1
              simp at this; omega
            rw [this] at e
            have e : ds = es := by simpa using e
            rw [← e]; exact hn
        · by_cases q : n < g1.length
          · rw [List.getElem?_append_left q] at e
            obtain ⟨a, ws, e1, e2, e3⟩ := c.at_ n es e
            exact ⟨a, ws, gpre n a e1, e2, Reps.noL trivial (e3.later c.ok l2) (c.nl n es e)⟩
          · rw [List.getElem?_append_right (by omega)] at e
            have hz : n - g1.length = 0 := by
              have := (List.getElem?_eq_some_iff.mp e).1
              simp at this; omega
            rw [hz] at e
            have e : ds = es := by simpa using e
            have hne : n = g1.length := by omega
            subst hne e
            refine ⟨p, vs, glen, hv, Reps.noL trivial (Reps.later (B := fun b => B1 b ∨ b = p) ⟨fun a q => ?_, fun a q => .inl (c.ok.cell a q)⟩ ⟨fun _ _ e _ => e, fun _ q => .inl q, gpre, fun _ q => q⟩ rv) hn⟩
            rcases q with q | q
            · exact c.ok.kin a q
            · rw [q]; exact .inl ⟨_, hv⟩
      exact o (σ.set i (some (.ref p))) H1 _ _ ((sl.step ce.ok sg).setP (.mref glen)) cg (s0.trans sg) (sg.later ce.ok)
    · rw [if_neg hn] at o; exact o.elim
  | _ => exact o.elim
end
end Rz

/-! RzS12 -/
set_option Elab.async false
set_option linter.all false
set_option maxRecDepth 100000
set_option maxHeartbeats 4000000
namespace Rz
open PySem PySem.Spec PyProof.Rows L2

/-! ### a, b, .. = x, y, .. -/
def SetAll (σ : L2.St) (js : List Nat) (vs : List V) (σ' : L2.St) : Prop :=
  σ'.length = σ.length ∧ (∀ j v, (j, v) ∈ js.zip vs → σ'[j]? = if j < σ.length then some (some v) else none) ∧ ∀ j, j ∉ js → σ'[j]? = σ[j]?
def tParG (js : List Nat) (ta : TA) : TS := fun D σ H => ta σ H fun vs H1 => vs.length = js.length ∧ vs.length ≤ sizeLine ∧ ∀ σ' H2, SetAll σ js vs σ' → L2.Same H1 H2 → D.nx σ' H2
theorem SetAll.nil (σ : L2.St) : SetAll σ [] [] σ := ⟨rfl, fun _ _ h => by simp at h, fun _ _ => rfl⟩
theorem SetAll.cons {σ σ' : L2.St} {j : Nat} {v : V} {js : List Nat} {vs : List V} (hj : j ∉ js) (h : SetAll (σ.set j (some v)) js vs σ') : SetAll σ (j :: js) (v :: vs) σ' := by
  obtain ⟨h1, h2, h3⟩ := h
  rw [List.length_set] at h1 h2
  refine ⟨h1, fun i w hm => ?_, fun i hi => ?_⟩
  · rcases List.mem_cons.mp (show (i, w) ∈ (j, v) :: js.zip vs from hm) with e | hm
    · injection e with e1 e2
      subst e1 e2
      rw [h3 i hj, List.getElem?_set]
      simp
    · exact h2 i w hm
  · have hi : ¬ (i = j) ∧ i ∉ js := by simpa [List.mem_cons, not_or] using hi
    rw [h3 i hi.2, List.getElem?_set_ne (fun z => hi.1 z.symm)]
theorem zip_rev {α β : Type} : ∀ {as : List α} {bs : List β}, as.length = bs.length → as.reverse.zip bs.reverse = (as.zip bs).reverse
  | [], [], _ => rfl
  | [], _ :: _, h => by simp at h
  | _ :: _, [], h => by simp at h
  | a :: as, b :: bs, h => by
    have h : as.length = bs.length := by simpa using h
    rw [List.reverse_cons, List.reverse_cons, List.zip_append (by simp [h]), zip_rev h]
    simp
theorem SetAll.rev {σ σ' : L2.St} {js : List Nat} {vs : List V} (hl : js.length = vs.length) (h : SetAll σ js.reverse vs.reverse σ') : SetAll σ js vs σ' := by
  obtain ⟨h1, h2, h3⟩ := h
  refine ⟨h1, fun j v hm => h2 j v ?_, fun j hj => h3 j (by simpa using hj)⟩
  rw [zip_rev hl]; simpa using hm
section
variable {X : Cx} {pins : List (Addr × Obj)} {H : Hp}
theorem stores_ok {E : Value → Shared → Prop} {Q : Shared → Prop} (hN : X.N.Nodup) {names : List Str} {js : List Nat} (hp : Paired (fun x j => X.N[j]? = some x) names js) : ∀ (vs : List V) (us : List Value) (σ : L2.St) (s : Shared), L2.Inv X pins σ H s → js.Nodup →
    (∀ x ∈ names, X.env.scope.names.lookup x = some .local) → Vals vs us → vs.length = js.length →
    (∀ σ' s', L2.Inv X pins σ' H s' → SetAll σ js vs σ' → Q s') → wpAny (model X.prog X.w) X.A (assignInOrder (names.map fun n => bindName X.env n) us) (fun _ s' => Q s') E s := by
  induction hp with
  | nil =>
    intro vs us σ s I _ _ r hl k
    cases r with
    | nil => exact assignInOrder_nil (k σ s I (.nil σ))
    | cons _ _ => simp at hl
  | cons hx hr ih =>
    intro vs us σ s I nd hloc r hl k
    cases r with
    | nil => simp at hl
    | cons r rr =>
      have lx := hloc _ (List.mem_cons_self ..)
      obtain ⟨nd1, nd2⟩ := List.nodup_cons.mp nd
      refine assignInOrder_cons (wpAny_bindName (store_ok I hN hx (.inl lx) r (fun s2 I2 => ?_) (.inr lx)))
      exact ih _ _ _ s2 I2 nd2 (fun y hy => hloc y (List.mem_cons_of_mem _ hy)) rr (by simpa using hl) fun σ' s' I' h => k σ' s' I' (.cons nd1 h)
theorem paired_app {α β : Type} {P : α → β → Prop} {as cs : List α} {bs ds : List β} (h : Paired P as bs) (h2 : Paired P cs ds) : Paired P (as ++ cs) (bs ++ ds) := by
  induction h with
  | nil => exact h2
  | cons r t ih => exact .cons r ih
theorem paired_rev {α β : Type} {P : α → β → Prop} {as : List α} {bs : List β} (h : Paired P as bs) : Paired P as.reverse bs.reverse := by
  induction h with
  | nil => exact .nil
  | cons r t ih => rw [List.reverse_cons, List.reverse_cons]; exact paired_app ih (.cons r .nil)
theorem ps_parA {ts es : List Expr} {kt k2 : Nat} {pt pt2 pos : Pos} {ta : TA} {names : List Str} {js : List Nat} (hc : X.calm = true) (hN : X.N.Nodup) (hj : Paired (fun x j => X.N[j]? = some x) names js) (hnd : js.Nodup)
    (hloc : ∀ x ∈ names, X.env.scope.names.lookup x = some .local) (ha : PA X es ta)
    (hw : swappedStores [.Tuple ts kt pt] (.Tuple es k2 pt2) X.env = pure (some names)) (hs : swapsWithSole [.Tuple ts kt pt] (.Tuple es k2 pt2) pos.line X.env = pure false) :
    PS X (.Assign [.Tuple ts kt pt] (.Tuple es k2 pt2) pos) (tParG js ta) := by
  refine ⟨fun pins s σ H D I h => ?_⟩
  rw [exec_Assign_arm]
  refine wpAny_bind (wpAny_standAt ?_)
  rw [hs]
  refine wpAny_bind (wpAny_pure ?_)
  rw [if_neg (by decide)]
  refine wpAny_bind (Tuple_ (thn (ha.run _ pins s σ H _ I h) fun us s1 ⟨vs, H1, I1, r1, hl, hz, q1⟩ => ?_))
  refine wpAny_newObj_type ?_ (by show us.toArray.size ≤ sizeLine; rw [List.size_toArray, ← r1.length]; exact hz)
  have I2 : L2.Inv X pins σ H1 { s1 with heap := s1.heap.push { cls := .type "tuple", data := .seq us.toArray } } := I1.kept (t' := s1.toks) fun b o e => Heap.get?_push_of_some _ e
  rw [hw]
  refine wpAny_bind (wpAny_pure ?_)
  show wpAny (model X.prog X.w) X.A (do rule "assign.swapped-stores"; let items ← unpackItems (.ref s1.heap.objs.size) names.length none; assignInOrder (names.reverse.map fun n => bindName X.env n) items.reverse; pure Flow.next) _ _ _
  have hnl : names.length = us.toArray.size := by rw [List.size_toArray, ← r1.length, hl]; exact hj.length
  rw [hnl]
  refine wpAny_bind (wpAny_rule (wpAny_bind (unpackItems_tuple (items := us.toArray) (I.ok.hd hc) (IsTup.new s1.heap _) fun h' hx' => ?_)))
  have I3 := I2.kept (h' := h') (t' := s1.toks) fun b o e => hx' b o (Nat.ne_of_lt (Heap.lt_size e)) e
  show wpAny _ _ (assignInOrder (names.reverse.map fun n => bindName X.env n) us.reverse >>= fun _ => pure Flow.next) _ _ _
  refine wpAny_bind (stores_ok hN (paired_rev hj) vs.reverse us.reverse σ _ I3 (List.pairwise_reverse.mpr (hnd.imp Ne.symm)) (fun x hx => hloc x (by simpa using hx)) r1.reverse (by simp [hl]) fun σ' s' I' h => wpAny_pure ?_)
  exact ⟨σ', H1, I', q1 σ' H1 (.rev hl.symm h) (L2.Same.refl H1)⟩
def gNames : List Nat → TGs
  | [] => gNil
  | j :: js => gCons (gName j) (gNames js)
theorem gNames_ok : ∀ (js : List Nat) (vs : List V) (σ : L2.St) (H : Hp) (Q : L2.St → Hp → Prop), js.Nodup → vs.length = js.length → (∀ σ', SetAll σ js vs σ' → Q σ' H) → gNames js vs σ H Q
  | [], [], σ, H, Q, _, _, k => ⟨rfl, k σ (.nil σ)⟩
  | [], _ :: _, _, _, _, _, hl, _ => by simp at hl
  | _ :: _, [], _, _, _, _, hl, _ => by simp at hl
  | j :: js, v :: vs, σ, H, Q, nd, hl, k => by
    obtain ⟨nd1, nd2⟩ := List.nodup_cons.mp nd
    exact ⟨v, vs, rfl, gNames_ok js vs _ H Q nd2 (by simpa using hl) fun σ' h => k σ' (.cons nd1 h)⟩
def tMo (ta : TA) : TA := fun σ H Q => ∃ K, ta σ H K ∧ ∀ vs H', K vs H' → Q vs H'
theorem pa_mo {es : List Expr} {ta : TA} (h : PA X es ta) : PA X es (tMo ta) := ⟨fun pos pins s σ H Q I ⟨K, hk, imp⟩ => thn (h.run pos pins s σ H K I hk) fun us s1 ⟨vs, H1, I1, r1, q⟩ => ⟨vs, H1, I1, r1, imp _ _ q⟩⟩
/-- through a tuple -/
theorem ps_parB {ts es : List Expr} {kt k2 : Nat} {pt pt2 pos : Pos} {ta : TA} {js : List Nat} (hc : X.calm = true) (hnd : js.Nodup) (hg : PGs X ts (gNames js)) (hn : (assignEach ts X.env).length = js.length) (hst : (assignEach ts X.env).findIdx? (·.1) = none)
    (ha : PA X es ta) (hw : swappedStores [.Tuple ts kt pt] (.Tuple es k2 pt2) X.env = pure none) (hs : swapsWithSole [.Tuple ts kt pt] (.Tuple es k2 pt2) pos.line X.env = pure false)
    (h1 : (assignEach [.Tuple ts kt pt] X.env).map (·.2) = [assign (.Tuple ts kt pt) X.env]) :
    PS X (.Assign [.Tuple ts kt pt] (.Tuple es k2 pt2) pos) (tParG js ta) := by
  refine (ps_asg (pe_tup (pa_mo ha)) (pg_tup hc hg hn hst) hs hw h1).imp fun D σ H h => ?_
  refine ⟨_, h, fun vs H1 ⟨hl, hz, q⟩ => ⟨hz, fun p hp => ?_⟩⟩
  exact ⟨p, vs, rfl, SqT.of upd_same, hl, gNames_ok js vs σ _ _ hnd hl fun σ' hs => q σ' _ hs (same_laid hp)⟩
end

/-! ### the law -/
section
variable {S : Inf} {H0 Hs Hb H H1 H' : Hp} {B0 Bs B B1 B' : Bad} {Γ0 Γs Γ Γ1 Γ' : List Addr} {W : WX} {fr : Bool} {C : Nat → List D → Gs → R D} {X : Cx} {Z : Ends} {σ : L2.St} {env : Env} {g : Gs}
/-- parts, some of them own and new since Hb -/
inductive Pars (S : Inf) (Hb H : Hp) (B : Bad) (Γ : List Addr) : List Bool → List V → List D → Prop
  | nil : Pars S Hb H B Γ [] [] []
  | val {v : V} {d : D} {os : List Bool} {vs : List V} {ds : List D} : Rep S H B Γ v d → Pars S Hb H B Γ os vs ds → Pars S Hb H B Γ (false :: os) (v :: vs) (d :: ds)
  | own {p : Addr} {d : D} {os : List Bool} {vs : List V} {ds : List D} : Hb p = none → B p → p ∉ Γ → OwnAt S H B Γ p d → (∀ k : Nat, os[k]? = some true → vs[k]? ≠ some (.ref p)) → Pars S Hb H B Γ os vs ds → Pars S Hb H B Γ (true :: os) (.ref p :: vs) (d :: ds)
theorem Pars.new {os : List Bool} {vs : List V} {ds : List D} (h : Pars S Hb H B Γ os vs ds) : ∀ {k : Nat} {p : Addr}, os[k]? = some true → vs[k]? = some (.ref p) → Hb p = none := by
  induction h with
  | nil => intro k p e; simp at e
  | val _ _ ih =>
    intro k p e1 e2
    cases k with
    | zero => simp at e1
    | succ k => exact ih (by simpa using e1) (by simpa using e2)
  | own hp _ _ _ _ _ ih =>
    intro k p e1 e2
    cases k with
    | zero => simp at e2; rw [← e2]; exact hp
    | succ k => exact ih (by simpa using e1) (by simpa using e2)
theorem Pars.back {os : List Bool} {vs : List V} {ds : List D} (hb : ∀ b, H1 b = none → Hb b = none) (h : Pars S H1 H B Γ os vs ds) : Pars S Hb H B Γ os vs ds := by
  induction h with
  | nil => exact .nil
  | val r _ ih => exact .val r ih
  | own hp b n w d _ ih => exact .own (hb _ hp) b n w d ih
theorem Pars.len {os : List Bool} {vs : List V} {ds : List D} (h : Pars S Hb H B Γ os vs ds) : vs.length = os.length ∧ ds.length = os.length := by
  induction h with
  | nil => exact ⟨rfl, rfl⟩
  | val _ _ ih => exact ⟨congrArg Nat.succ ih.1, congrArg Nat.succ ih.2⟩
  | own _ _ _ _ _ _ ih => exact ⟨congrArg Nat.succ ih.1, congrArg Nat.succ ih.2⟩
theorem Pars.at_ {os : List Bool} {vs : List V} {ds : List D} (h : Pars S Hb H B Γ os vs ds) : ∀ {k : Nat} {o : Bool}, os[k]? = some o → ∃ v d, vs[k]? = some v ∧ ds[k]? = some d ∧
    (if o then ∃ p, v = .ref p ∧ Hb p = none ∧ B p ∧ p ∉ Γ ∧ OwnAt S H B Γ p d else Rep S H B Γ v d) := by
  induction h with
  | nil => intro k o e; simp at e
  | val r _ ih =>
    intro k o e
    cases k with
    | zero => simp at e; subst e; exact ⟨_, _, rfl, rfl, by simp only [Bool.false_eq_true, if_false]; exact r⟩
    | succ k => obtain ⟨v, d, e1, e2, q⟩ := ih (k := k) (by simpa using e); exact ⟨v, d, by simpa using e1, by simpa using e2, q⟩
  | own hp b n w d _ ih =>
    intro k o e
    cases k with
    | zero => simp at e; subst e; exact ⟨_, _, rfl, rfl, by simp only [if_true]; exact ⟨_, rfl, hp, b, n, w⟩⟩
    | succ k => obtain ⟨v, d, e1, e2, q⟩ := ih (k := k) (by simpa using e); exact ⟨v, d, by simpa using e1, by simpa using e2, q⟩
theorem Pars.apart {os : List Bool} {vs : List V} {ds : List D} (h : Pars S Hb H B Γ os vs ds) : ∀ {k l : Nat} {p : Addr}, k < l → os[k]? = some true → os[l]? = some true → vs[k]? = some (.ref p) → vs[l]? = some (.ref p) → False := by
  induction h with
  | nil => intro k l p _ e; simp at e
  | val r _ ih =>
    intro k l p hl e1 e2 e3 e4
    cases l with
    | zero => omega
    | succ l =>
      cases k with
      | zero => simp at e1
      | succ k => exact ih (k := k) (l := l) (p := p) (by omega) (by simpa using e1) (by simpa using e2) (by simpa using e3) (by simpa using e4)
  | own hp b n w d _ ih =>
    intro k l p hl e1 e2 e3 e4
    cases l with
    | zero => omega
    | succ l =>
      cases k with
      | zero =>
        simp at e3
        subst e3
        exact d l (by simpa using e2) (by simpa using e4)
      | succ k => exact ih (k := k) (l := l) (p := p) (by omega) (by simpa using e1) (by simpa using e2) (by simpa using e3) (by simpa using e4)
def tAs (S : Inf) (H0 : Hp) (W : WX) (C : Nat → List D → Gs → R D) : List Ex → TA
  | [] => tNil
  | e :: es => tCons (tD S H0 W C e) (tAs S H0 W C es)
theorem par_core : ∀ (os : List Bool) (es : List Ex) {H : Hp} {B : Bad} {Γ : List Addr} {g : Gs} {Qd : List D → Gs → Hp → Bad → List Addr → Prop} {Q : List V → Hp → Prop}, os.length = es.length → (∀ (k : Nat) (e : Ex), os[k]? = some true → es[k]? = some e → isF S.T e = true) →
    Step Hs Bs Γs H B Γ → Slots S H B Γ H0 σ env → Cells S H g B Γ → Out S σ W Hs Bs Γs (evEs C es env g) Qd →
    (∀ ds g' H' B' Γ' vs, Cells S H' g' B' Γ' → Step Hs Bs Γs H' B' Γ' → Step H B Γ H' B' Γ' → Slots S H' B' Γ' H0 σ env → Qd ds g' H' B' Γ' → Pars S H H' B' Γ' os vs ds → Q vs H') →
    (∀ ds g', evEs C es env g = .ok ds g' → ∀ (k : Nat) (d : D), os[k]? = some true → ds[k]? = some d → isLst d = true) → tAs S H0 W C es σ H Q
  | [], [], H, B, Γ, g, Qd, Q, _, _, st, sl, ce, h, K, _ => K [] g H B Γ [] ce st .refl sl (h H B Γ ce st) .nil
  | [], _ :: _, _, _, _, _, _, _, hl, _, _, _, _, _, _, _ => by simp at hl
  | _ :: _, [], _, _, _, _, _, _, hl, _, _, _, _, _, _, _ => by simp at hl
  | o :: os, e :: es, H, B, Γ, g, Qd, Q, hl, hf, st, sl, ce, h, K, hL => by
    have h : Out S σ W Hs Bs Γs ((evE C e env g).bind fun d g => (evEs C es env g).bind fun ds g => .ok (d :: ds) g) Qd := h
    have hL : ∀ ds g', ((evE C e env g).bind fun d g => (evEs C es env g).bind fun ds g => R.ok (d :: ds) g) = .ok ds g' → ∀ (k : Nat) (d : D), (o :: os)[k]? = some true → ds[k]? = some d → isLst d = true := hL
    refine ⟨env, g, B, Γ, sl, ce, ?_⟩
    cases ee : evE C e env g with
    | no => rw [ee] at h; exact h.elim
    | exc c p g1 =>
      rw [ee] at h
      exact fun H1 B1 Γ1 cls dd c1 s1 x => h H1 B1 Γ1 cls dd c1 (st.trans s1) x
    | ok d g1 =>
      rw [ee] at h hL
      have h : Out S σ W Hs Bs Γs ((evEs C es env g1).bind fun ds g => .ok (d :: ds) g) Qd := h
      have hL : ∀ ds g', ((evEs C es env g1).bind fun ds g => R.ok (d :: ds) g) = .ok ds g' → ∀ (k : Nat) (d : D), (o :: os)[k]? = some true → ds[k]? = some d → isLst d = true := hL
      intro H1 B1 Γ1 c1 s1 v rv fv
      have h' : Out S σ W Hs Bs Γs (evEs C es env g1) fun ds g' H' B' Γ' => Qd (d :: ds) g' H' B' Γ' := by
        cases er : evEs C es env g1 with
        | ok ds g2 => rw [er] at h; exact h
        | exc c p g2 => rw [er] at h; exact h
        | no => rw [er] at h; exact h
      have hL' : ∀ ds g', evEs C es env g1 = .ok ds g' → ∀ (k : Nat) (d : D), os[k]? = some true → ds[k]? = some d → isLst d = true := fun ds g' q k x e1 e2 =>
        hL (d :: ds) g' (by rw [q]; rfl) (k + 1) x (by simpa using e1) (by simpa using e2)
      have hf' : ∀ (k : Nat) (e : Ex), os[k]? = some true → es[k]? = some e → isF S.T e = true := fun k x e1 e2 => hf (k + 1) x (by simpa using e1) (by simpa using e2)
      have back1 : ∀ b, H1 b = none → H b = none := fun b q => s1.back q
      cases o with
      | false =>
        refine par_core os es (by simpa using hl) hf' (st.trans s1) (sl.step ce.ok s1) c1 h' (fun ds g' H' B' Γ' vs c' st' s' sl' q ps => ?_) hL'
        exact K (d :: ds) g' H' B' Γ' (v :: vs) c' st' (s1.trans s') sl' q (.val (rv.step c1.ok s') (ps.back back1))
      | true =>
        cases er : evEs C es env g1 with
        | no => rw [er] at h'; exact h'.elim
        | exc c p g2 =>
          have h2 : Out S σ W Hs Bs Γs (evEs C es env g1) fun ds g' H' B' Γ' => False := by
            rw [er] at h' ⊢; exact h'
          exact par_core os es (by simpa using hl) hf' (st.trans s1) (sl.step ce.ok s1) c1 h2 (fun ds g' H' B' Γ' vs c' st' s' sl' q ps => q.elim) hL'
        | ok ds0 g2 =>
          have hd : isLst d = true := hL (d :: ds0) g2 (by rw [er]; rfl) 0 d rfl rfl
          obtain ⟨p, rfl, hp, nb, hk, ow⟩ := fresh_own hd (fv (hf 0 e rfl rfl))
          have sg : Step H B Γ H1 (fun b => B1 b ∨ b = p) Γ1 := s1.grow (fun _ q => .inl q) fun a q => q.elim .inl fun z => .inr (by rw [z]; exact hp)
          have cg : Cells S H1 g1 (fun b => B1 b ∨ b = p) Γ1 := c1.bad (fun _ q => .inl q) fun a q => by
            rcases q with q | q
            · exact c1.ok.kin a q
            · rw [q]; exact hk
          have np := fresh_notin c1.ok nb
          refine par_core os es (by simpa using hl) hf' (st.trans sg) (sl.step ce.ok sg) cg h' (fun ds g' H' B' Γ' vs c' st' s' sl' q ps => ?_) hL'
          refine K (d :: ds) g' H' B' Γ' (.ref p :: vs) c' st' (sg.trans s') sl' q (.own hp (s'.bsub _ (.inr rfl)) (fun z => ?_) (ow.step cg.ok s' np) (fun k e1 e2 => ?_) (ps.back back1))
          · rcases s'.gnew _ z with y | y
            · exact np y
            · exact ow.live y
          · have z := ps.new e1 e2
            exact ow.live z

theorem getS_lt' : ∀ {env : Env} {i : Nat}, getS env i ≠ .u → i < env.length
  | [], _, h => (h rfl).elim
  | _ :: _, 0, _ => Nat.succ_pos _
  | _ :: r, i + 1, h => Nat.succ_lt_succ (getS_lt' (env := r) h)
theorem setPar_lst : ∀ (ts : List (Bool × Nat)) (ds : List D) (env env' : Env), setPar ts ds env = some env' → ∀ (k : Nat) (d : D), (ts.map (·.1))[k]? = some true → ds[k]? = some d → isLst d = true
  | [], ds, env, env', h, k, d, e1, e2 => by simp at e1
  | t :: ts, [], env, env', h, k, d, e1, e2 => by simp at e2
  | (o, i) :: ts, d0 :: ds, env, env', h, k, d, e1, e2 => by
    have h : (if (o && !isLst d0) = true then none else setPar ts ds (setS env i (if o then .o d0 else .p d0))) = some env' := h
    by_cases c : (o && !isLst d0) = true
    · rw [if_pos c] at h; cases h
    · rw [if_neg c] at h
      cases k with
      | zero =>
        simp at e1 e2
        subst e1 e2
        simpa using c
      | succ k => exact setPar_lst ts ds _ env' h k d (by simpa using e1) (by simpa using e2)
theorem setPar_get : ∀ (ts : List (Bool × Nat)) (ds : List D) (env env' : Env), setPar ts ds env = some env' → env'.length = env.length ∧ ∀ j : Nat,
    (∃ (k : Nat) (o : Bool) (d : D), ts[k]? = some (o, j) ∧ ds[k]? = some d ∧ j < env.length ∧ getS env' j = if o then .o d else .p d) ∨ ((j ∉ ts.map (·.2) ∨ env.length ≤ j) ∧ getS env' j = getS env j)
  | [], [], env, env', h => by
    injection h with h
    subst h
    exact ⟨rfl, fun j => .inr ⟨.inl (by simp), rfl⟩⟩
  | [], _ :: _, env, env', h => by cases h
  | _ :: _, [], env, env', h => by cases h
  | (o, i) :: ts, d0 :: ds, env, env', h => by
    have h : (if (o && !isLst d0) = true then none else setPar ts ds (setS env i (if o then .o d0 else .p d0))) = some env' := h
    by_cases c : (o && !isLst d0) = true
    · rw [if_pos c] at h; cases h
    · rw [if_neg c] at h
      obtain ⟨h1, h2⟩ := setPar_get ts ds _ env' h
      rw [setS_len] at h1 h2
      refine ⟨h1, fun j => ?_⟩
      rcases h2 j with ⟨k, o', d, e1, e2, e3, e4⟩ | ⟨e1, e2⟩
      · exact .inl ⟨k + 1, o', d, by simpa using e1, by simpa using e2, e3, e4⟩
      · rw [getS_setS] at e2
        by_cases q : i = j ∧ i < env.length
        · rw [if_pos q] at e2
          exact .inl ⟨0, o, d0, by rw [q.1]; rfl, rfl, by rw [← q.1]; exact q.2, e2⟩
        · rw [if_neg q] at e2
          refine .inr ⟨?_, e2⟩
          by_cases hj : env.length ≤ j
          · exact .inr hj
          · rcases e1 with e1 | e1
            · left
              have : i ≠ j := fun z => q ⟨z, by omega⟩
              simp only [List.map_cons, List.mem_cons, not_or]
              exact ⟨fun z => this z.symm, e1⟩
            · exact .inr e1
theorem law_par {ts : List (Bool × Nat)} {es : List Ex} (hnd : (ts.map (·.2)).Nodup) (hl : ts.length = es.length) (hf : ∀ (k : Nat) (e : Ex), (ts.map (·.1))[k]? = some true → es[k]? = some e → isF S.T e = true) (hz : es.length ≤ 1000)
    (h : tS S H0 B0 Γ0 W fr C (.par ts es) Z σ H) : tParG (ts.map (·.2)) (tAs S H0 W C es) Z σ H := by
  obtain ⟨env, g, B, Γ, ok0, sl, ce, s0, h⟩ := h
  have h : OutS S H0 B0 Γ0 W fr H B Γ (match evEs C es env g with | .ok ds g => (match setPar ts ds env with | some env => SR.nx env g | none => .no) | .exc c p g => .exc c p env g | .no => .no) Z := h
  have h1 := OutS.tos (f := fun ds g => match setPar ts ds env with | some env => SR.nx env g | none => .no) sl ce.ok s0 .refl h
  refine par_core (ts.map (·.1)) es (by simpa using hl) hf .refl sl ce h1 (fun ds g' H' B' Γ' vs c' st' s' sl' q ps => ?_) fun ds g' e k d e1 e2 => ?_
  · obtain ⟨l1, l2⟩ := ps.len
    rw [List.length_map] at l1 l2
    refine ⟨by rw [List.length_map]; exact l1, by rw [l1, hl, sizeLine_eq]; omega, fun σ' H2 hs sm => ?_⟩
    cases ep : setPar ts ds env with
    | none => rw [ep] at q; exact q.elim
    | some env' =>
      rw [ep] at q
      obtain ⟨g1, g2⟩ := setPar_get ts ds env env' ep
      obtain ⟨a1, a2, a3⟩ := hs
      have sl2 := sl'.step c'.ok (Same.step sm)
      -- a slot's part
      have part : ∀ (k : Nat) (o : Bool) (j : Nat), ts[k]? = some (o, j) → j < env.length → ∃ v d, vs[k]? = some v ∧ ds[k]? = some d ∧ σ'[j]? = some (some v) ∧ (if o then ∃ p, v = .ref p ∧ H p = none ∧ B' p ∧ p ∉ Γ' ∧ OwnAt S H' B' Γ' p d else Rep S H' B' Γ' v d) := fun k o j e hj => by
        obtain ⟨v, d, e1, e2, e3⟩ := ps.at_ (k := k) (o := o) (by rw [List.getElem?_map, e]; rfl)
        refine ⟨v, d, e1, e2, ?_, e3⟩
        rw [a2 j v ?_, if_pos (by rw [sl'.len]; exact hj)]
        rw [List.mem_iff_getElem?]
        exact ⟨k, by rw [List.getElem?_zip_eq_some]; exact ⟨by rw [List.getElem?_map, e]; rfl, e1⟩⟩
      refine q σ' H2 B' Γ' ⟨by rw [a1, g1]; exact sl'.len, fun j => ?_, fun j k x ne hj hk e1 e2 => ?_⟩ (c'.same sm) ((s0.trans st').trans (Same.step sm)) ((st'.trans (Same.step sm)).later ce.ok)
      · rcases g2 j with ⟨k, o, d, e1, e2, e3, e4⟩ | ⟨e1, e2⟩
        · obtain ⟨v, d', f1, f2, f3, f4⟩ := part k o j e1 e3
          rw [e2] at f2
          cases f2
          rw [e4, f3]
          cases o with
          | false =>
            simp only [Bool.false_eq_true, if_false] at f4 ⊢
            exact ⟨v, rfl, f4.step c'.ok (Same.step sm)⟩
          | true =>
            simp only [if_true] at f4 ⊢
            obtain ⟨p, rfl, f5, f6, f7, f8⟩ := f4
            exact ⟨p, rfl, f6, f7, s0.back f5, f8.step c'.ok (Same.step sm) f7⟩
        · rw [e2]
          rcases e1 with e1 | e1
          · rw [a3 j e1]; exact sl2.at_ j
          · have : getS env j = .u := by
              cases es : getS env j with
              | u => rfl
              | p d => exact absurd (getS_lt' (by rw [es]; exact fun z => nomatch z)) (by omega)
              | o d => exact absurd (getS_lt' (by rw [es]; exact fun z => nomatch z)) (by omega)
            rw [this]; trivial
      · -- two own things stand apart
        have kind : ∀ m : Nat, isO (getS env' m) → (∃ k : Nat, ts[k]? = some (true, m) ∧ m < env.length) ∨ (isO (getS env m) ∧ (m ∉ ts.map (·.2))) := fun m hm => by
          rcases g2 m with ⟨k, o, d, f1, f2, f3, f4⟩ | ⟨f1, f2⟩
          · cases o with
            | true => exact .inl ⟨k, f1, f3⟩
            | false => rw [f4] at hm; exact hm.elim
          · rw [f2] at hm
            rcases f1 with f1 | f1
            · exact .inr ⟨hm, f1⟩
            · exact absurd (getS_lt hm) (by omega)
        have old : ∀ m : Nat, isO (getS env m) → m ∉ ts.map (·.2) → σ'[m]? = some (some (.ref x)) → H x ≠ none := fun m hm hn e => by
          rw [a3 m hn] at e
          exact own_live (sl.at_ m) hm e
        have new : ∀ (m k : Nat), ts[k]? = some (true, m) → m < env.length → σ'[m]? = some (some (.ref x)) → H x = none ∧ vs[k]? = some (.ref x) := fun m k f1 f2 e => by
          obtain ⟨v, d, q1, q2, q3, q4⟩ := part k true m f1 f2
          rw [e] at q3
          cases q3
          simp only [if_true] at q4
          obtain ⟨p, q5, q6, _⟩ := q4
          cases q5
          exact ⟨q6, q1⟩
        rcases kind j hj with ⟨a, f1, f2⟩ | ⟨f1, f2⟩ <;> rcases kind k hk with ⟨b, f3, f4⟩ | ⟨f3, f4⟩
        · obtain ⟨z1, z2⟩ := new j a f1 f2 e1
          obtain ⟨z3, z4⟩ := new k b f3 f4 e2
          have hab : a ≠ b := fun z => by
            subst z; rw [f1] at f3; cases f3; exact ne rfl
          rcases Nat.lt_or_gt_of_ne hab with hlt | hlt
          · exact ps.apart hlt (by rw [List.getElem?_map, f1]; rfl) (by rw [List.getElem?_map, f3]; rfl) z2 z4
          · exact ps.apart hlt (by rw [List.getElem?_map, f3]; rfl) (by rw [List.getElem?_map, f1]; rfl) z4 z2
        · exact old k f3 f4 e2 (new j a f1 f2 e1).1
        · exact old j f1 f2 e1 (new k b f3 f4 e2).1
        · rw [a3 j f2] at e1
          rw [a3 k f4] at e2
          exact sl.apart j k x ne f1 f3 e1 e2
  · cases ep : setPar ts ds env with
    | none => rw [e] at h; simp only [ep] at h; exact h.elim
    | some env' => exact setPar_lst ts ds env env' ep k d e1 e2
end
end Rz

/-! RzS13 -/
set_option Elab.async false
set_option linter.all false
set_option maxRecDepth 100000
set_option maxHeartbeats 4000000
namespace Rz
open PySem PySem.Spec PyProof.Rows L2

/-! ### the check's tables, the context -/
structure Lnk (S : Inf) (J : Tab) (n : Nat) : Prop where
  T : S.T = J.T
  call : ∀ f x k, J.nam f = some (x, k) → Def S n f ∧ Nm S f ∧ S.nam f = x ∧ (S.ps f).length = k
  glo : ∀ x d, (x, d) ∈ J.glo → ∃ v u, S.mg (sOf x) = some u ∧ RelV v u ∧ ∀ H B Γ, Rep S H B Γ v d
  blt : ∀ x, x ∈ blts → S.mg x = none
  cls : S.cls = J.cls
  exc : ∀ c x, J.cls.lookup c = some x → S.mg x = some (.ref (S.cad c)) ∧ PySem.W.excIn S.K (S.cad c) He.veBase "ValueError.__new__" = true ∧ PySem.W.keepIn S.K (.ref (S.cad c)) = true ∧ PySem.W.subIn S.K (.ref (S.cad c)) (.type "BaseException") = some true ∧ PySem.W.typeIn S.K (.ref (S.cad c)) = some (.type "type")
  exm : ∀ c x d y, J.cls.lookup c = some x → J.cls.lookup d = some y → PySem.W.exmOne S.K (.ref (S.cad c)) (.ref (S.cad d)) = some (exB c d)
def isK (sc : Scope) (x : Str) (k : NameKind) : Bool := decide (sc.names.lookup x = some k)
theorem isK_ok {sc : Scope} {x : Str} {k : NameKind} (h : isK sc x k = true) : sc.names.lookup x = some k := of_decide_eq_true h
def visB (sc : Scope) (x : Str) : Bool := isK sc x .local || isK sc x .cell || isK sc x .free
def nmOk (x : Str) : Bool := !(x == ("__debug__" : Str)) && !(x == ("__classdict__" : Str))
def nmB (N : List Str) (sc : Scope) (i : Nat) (x : Str) : Bool := decide (N[i]? = some x) && visB sc x && nmOk x
def fnB : Option Scope → Str → Bool
  | none, _ => true
  | some s, x => isK s x .cell
def stB (N : List Str) (sc : Scope) (fs : Option Scope) (i : Nat) (x : Str) : Bool := decide (N[i]? = some x) && (isK sc x .local || (isK sc x .cell && fnB fs x))
structure Ctx (S : Inf) (n : Nat) (N : List Str) (sc : Scope) (fs : Option Scope) (X : Cx) (W : WX) : Prop where
  inn : In S X
  eN : X.N = N
  eS : X.env.scope = sc
  calm : X.calm = true
  nd : N.Nodup
  room : Room n X.A
  tk : Takes X W
  kind : sc.kind = .function
  fn : ∀ x, fnB fs x = true → X.fn x = true
/-! ### plain shapes -/
def unst : Expr → Bool
  | .Starred _ _ => false
  | _ => true
theorem star_cons {e : Expr} {es : List Expr} {env : PySem.Env} (h : unst e = true) : starEach (e :: es) env = (false, eval e env) :: starEach es env := by
  cases e <;> first | rfl | cases h
theorem star_any {pos : Pos} {env : PySem.Env} : ∀ {es : List Expr}, es.all unst = true → (backTo pos (starEach es env)).any (·.1) = false
  | [], _ => rfl
  | e :: es, h => by
    rw [List.all_cons, Bool.and_eq_true] at h
    rw [star_cons h.1]
    show (false || (backTo pos (starEach es env)).any (·.1)) = false
    rw [star_any h.2]; rfl
theorem assign_cons {e : Expr} {es : List Expr} {env : PySem.Env} (h : unst e = true) : assignEach (e :: es) env = (false, assign e env) :: assignEach es env := by
  cases e <;> first | rfl | cases h
theorem assign_len {env : PySem.Env} : ∀ {es : List Expr}, es.all unst = true → (assignEach es env).length = es.length
  | [], _ => rfl
  | e :: es, h => by
    rw [List.all_cons, Bool.and_eq_true] at h
    rw [assign_cons h.1, List.length_cons, List.length_cons, assign_len h.2]
theorem assign_nost {env : PySem.Env} : ∀ {es : List Expr}, es.all unst = true → (assignEach es env).findIdx? (·.1) = none
  | [], _ => rfl
  | e :: es, h => by
    rw [List.all_cons, Bool.and_eq_true] at h
    rw [assign_cons h.1, List.findIdx?_cons]
    simp [assign_nost h.2]
def simpT : Expr → Bool
  | .UnaryOp .Not _ _ => false
  | .BoolOp _ _ _ => false
  | .IfExp _ _ _ _ => false
  | .Compare _ _ _ _ => false
  | _ => true
theorem simpT_ok {e : Expr} {env : PySem.Env} (h : simpT e = true) : ∀ whole, isTrue e env whole = (do let v ← whole; standAt e.pos; holding [v] (truthy v)) := by
  intro whole
  cases e with
  | UnaryOp op x p => cases op <;> first | rfl | cases h
  | _ => first | rfl | cases h
def noSl : Expr → Bool
  | .Slice _ _ _ _ => false
  | _ => true
theorem noSl_ok {e : Expr} (h : noSl e = true) : PlainIx e := by
  intro o i
  cases e <;> first | rfl | cases h
def noSet : Expr → Bool
  | .Set _ _ _ => false
  | _ => true
theorem noSet_ok {e : Expr} {env : PySem.Env} (h : noSet e = true) : ∀ x, foldedSetIterable e env x = pure x := by
  intro x
  cases e <;> first | rfl | cases h
theorem noSet_mark {op : CmpOp} {e : Expr} (h : noSet e = true) : behindInMarks op e = false := by
  cases e <;> first | rfl | cases h
/-! ### views -/
def vName : Expr → Option Str
  | .Name x _ => some x
  | _ => none
theorem vName_ok {e : Expr} {x : Str} (h : vName e = some x) : ∃ p, e = .Name x p := by
  cases e with
  | Name y p => injection h with h; subst h; exact ⟨p, rfl⟩
  | _ => cases h
def vTup : Expr → Option (List Expr)
  | .Tuple es _ _ => some es
  | _ => none
theorem vTup_ok {e : Expr} {x : List Expr} (h : vTup e = some x) : ∃ k p, e = .Tuple x k p := by
  cases e with
  | Tuple y k p => injection h with h; subst h; exact ⟨k, p, rfl⟩
  | _ => cases h
def vLst : Expr → Option (List Expr)
  | .List es _ => some es
  | _ => none
theorem vLst_ok {e : Expr} {x : List Expr} (h : vLst e = some x) : ∃ p, e = .List x p := by
  cases e with
  | List y p => injection h with h; subst h; exact ⟨p, rfl⟩
  | _ => cases h
def vBin : Expr → Option (Expr × Operator × Expr)
  | .BinOp a op b _ => some (a, op, b)
  | _ => none
theorem vBin_ok {e : Expr} {a b : Expr} {op : Operator} (h : vBin e = some (a, op, b)) : ∃ p, e = .BinOp a op b p := by
  cases e with
  | BinOp y o z p => injection h with h; injection h with h1 h2; injection h2 with h2 h3; subst h1 h2 h3; exact ⟨p, rfl⟩
  | _ => cases h
def vCmp : Expr → Option (Expr × List CmpOp × List Expr)
  | .Compare a ops bs _ => some (a, ops, bs)
  | _ => none
theorem vCmp_ok {e : Expr} {a : Expr} {bs : List Expr} {ops : List CmpOp} (h : vCmp e = some (a, ops, bs)) : ∃ p, e = .Compare a ops bs p := by
  cases e with
  | Compare y o z p => injection h with h; injection h with h1 h2; injection h2 with h2 h3; subst h1 h2 h3; exact ⟨p, rfl⟩
  | _ => cases h
def vUn : Expr → Option (UnaryOp × Expr)
  | .UnaryOp op a _ => some (op, a)
  | _ => none
theorem vUn_ok {e a : Expr} {op : UnaryOp} (h : vUn e = some (op, a)) : ∃ p, e = .UnaryOp op a p := by
  cases e with
  | UnaryOp o y p => injection h with h; injection h with h1 h2; subst h1 h2; exact ⟨p, rfl⟩
  | _ => cases h
def vBool : Expr → Option (BoolOp × List Expr × Pos)
  | .BoolOp op es p => some (op, es, p)
  | _ => none
theorem vBool_ok {e : Expr} {es : List Expr} {op : BoolOp} {p : Pos} (h : vBool e = some (op, es, p)) : e = .BoolOp op es p := by
  cases e with
  | BoolOp o y q => injection h with h; injection h with h1 h2; injection h2 with h2 h3; subst h1 h2 h3; rfl
  | _ => cases h
def vIf : Expr → Option (Expr × Expr × Expr)
  | .IfExp c a b _ => some (c, a, b)
  | _ => none
theorem vIf_ok {e c a b : Expr} (h : vIf e = some (c, a, b)) : ∃ p, e = .IfExp c a b p := by
  cases e with
  | IfExp y o z p => injection h with h; injection h with h1 h2; injection h2 with h2 h3; subst h1 h2 h3; exact ⟨p, rfl⟩
  | _ => cases h
def vCall : Expr → Option (Str × List Expr)
  | .Call (.Name x _) es [] _ => some (x, es)
  | _ => none
theorem vCall_ok {e : Expr} {x : Str} {es : List Expr} (h : vCall e = some (x, es)) : ∃ p q, e = .Call (.Name x p) es [] q := by
  unfold vCall at h
  split at h
  · injection h with h; injection h with h1 h2; subst h1 h2; exact ⟨_, _, rfl⟩
  · cases h
def vSub : Expr → Option (Expr × Expr)
  | .Subscript a b _ => some (a, b)
  | _ => none
theorem vSub_ok {e a b : Expr} (h : vSub e = some (a, b)) : ∃ p, e = .Subscript a b p := by
  cases e with
  | Subscript y o p => injection h with h; injection h with h1 h2; subst h1 h2; exact ⟨p, rfl⟩
  | _ => cases h
def vSlice : Expr → Option (Option Expr × Option Expr)
  | .Slice a b none _ => some (a, b)
  | _ => none
theorem vSlice_ok {e : Expr} {a b : Option Expr} (h : vSlice e = some (a, b)) : ∃ p, e = .Slice a b none p := by
  unfold vSlice at h
  split at h
  · injection h with h; injection h with h1 h2; subst h1 h2; exact ⟨_, rfl⟩
  · cases h
def vComp : Expr → Option (Expr × Expr × Expr × List Expr × Scope × Pos)
  | .ListComp elt [⟨tg, iter, ifs, 0⟩] scope p => some (elt, tg, iter, ifs, scope, p)
  | _ => none
theorem vComp_ok {e elt tg iter : Expr} {ifs : List Expr} {scope : Scope} {p : Pos} (h : vComp e = some (elt, tg, iter, ifs, scope, p)) : e = .ListComp elt [⟨tg, iter, ifs, 0⟩] scope p := by
  unfold vComp at h
  split at h
  · injection h with h; injection h with h1 h; injection h with h2 h; injection h with h3 h; injection h with h4 h; injection h with h5 h6
    subst h1 h2 h3 h4 h5 h6; rfl
  · cases h
/-! ### operations -/
def binOf : Op → Option Operator
  | .add => some .Add
  | .sub => some .Sub
  | .mul => some .Mult
  | .fdiv => some .FloorDiv
  | .mod => some .Mod
  | .pow => some .Pow
  | _ => none
theorem bin_ok {S : Inf} {X : Cx} {n : Nat} (i : In S X) (hr : Room n X.A) {o : Op} {p : Operator} (h : binOf o = some p) : ∃ r, OpR X (binaryOp p) r ∧ RO S r (op2 o) := by
  cases o with
  | add => cases h; exact ⟨_, op_addR, by rw [i.K]; exact ro_add⟩
  | sub => cases h; exact ⟨_, op_sub, ro_sub⟩
  | mul => cases h; exact ⟨_, op_mulR, by rw [i.K]; exact ro_mul⟩
  | fdiv => cases h; exact ⟨_, op_fdivX, ro_fdiv⟩
  | mod => cases h; exact ⟨_, op_modN, ro_mod⟩
  | pow => cases h; exact ⟨_, op_pow, ro_pow⟩
  | _ => cases h
/-! ### built-ins by one name -/
def biNm : Bi → Option Str
  | .len => some "len"
  | .int => some "int"
  | .bool => some "bool"
  | .abs => some "abs"
  | .min2 => some "min"
  | .min3 => some "min"
  | .max2 => some "max"
  | .sum => some "sum"
  | .tuple => some "tuple"
  | .list => some "list"
  | .sorted => some "sorted"
  | .any => some "any"
  | .all => some "all"
  | _ => none
theorem boot_abs' : bootBuiltins "abs" = some (.builtin "abs") := by decide +kernel
theorem boot_any' : bootBuiltins "any" = some (.builtin "any") := by decide +kernel
theorem boot_all' : bootBuiltins "all" = some (.builtin "all") := by decide +kernel
theorem boot_enum' : bootBuiltins "enumerate" = some (.type "enumerate") := by decide +kernel
section
variable {S : Inf} {H0 : Hp} {W : WX} {X : Cx} {C : Nat → List D → Gs → R D}
theorem biB {id : String} {r : List V → Hp → VK → Prop} {b : Bi} {x : Str} {e : Ex} {es : List Ex} {pe : Expr} {pes : List Expr} {p pos : Pos} (hc : CallR X (.builtin id) r) (hr : RB S r b) (hg : Gl X x) (hm : X.mg x = none) (hv : bootBuiltins x = some (.builtin id)) (ha : PA X (pe :: pes) (tDs S H0 W C (e :: es)))
    (hs : (pe :: pes).all unst = true) (hn : x ≠ "__name__") (hdb : (x == ("__debug__" : Str)) = false) : PE X (.Call (.Name x p) (pe :: pes) [] pos) (tD S H0 W C (.bi b (e :: es))) := by
  rw [List.all_cons, Bool.and_eq_true] at hs
  exact eok_bi (pe_callB hc hg hm hv ha hn hdb (star_cons hs.1) (star_any hs.2)) hr
theorem biT {id : String} {r : List V → Hp → VK → Prop} {b : Bi} {x : Str} {e : Ex} {es : List Ex} {pe : Expr} {pes : List Expr} {p pos : Pos} (hc : CallR X (.type id) r) (hr : RB S r b) (hg : Gl X x) (hm : X.mg x = none) (hv : bootBuiltins x = some (.type id)) (ha : PA X (pe :: pes) (tDs S H0 W C (e :: es)))
    (hs : (pe :: pes).all unst = true) (hn : x ≠ "__name__") (hdb : (x == ("__debug__" : Str)) = false) : PE X (.Call (.Name x p) (pe :: pes) [] pos) (tD S H0 W C (.bi b (e :: es))) := by
  rw [List.all_cons, Bool.and_eq_true] at hs
  exact eok_bi (pe_callTy hc hg hm hv ha hn hdb (star_cons hs.1) (star_any hs.2)) hr
theorem bi_ok (hK : X.K = S.K) (hcalm : X.calm = true) {b : Bi} {x : Str} {e : Ex} {es : List Ex} {pe : Expr} {pes : List Expr} {p pos : Pos} (h : biNm b = some x) (hg : Gl X x) (hm : X.mg x = none) (ha : PA X (pe :: pes) (tDs S H0 W C (e :: es)))
    (hs : (pe :: pes).all unst = true) : PE X (.Call (.Name x p) (pe :: pes) [] pos) (tD S H0 W C (.bi b (e :: es))) := by
  cases b with
  | len => cases h; exact biB cr_lenR (by rw [hK]; exact rb_len) hg hm PySem.boot_len ha hs (by decide) (by decide)
  | int => cases h; exact biT call_int1 rb_int hg hm PyProof.Rows.boot_int ha hs (by decide) (by decide)
  | bool => cases h; exact biT call_bool1 rb_bool hg hm PyProof.Rows.boot_bool ha hs (by decide) (by decide)
  | abs => cases h; exact biB call_abs rb_abs hg hm boot_abs' ha hs (by decide) (by decide)
  | min2 => cases h; exact biB (call_min2 hcalm) rb_min2 hg hm PyProof.Rows.boot_min ha hs (by decide) (by decide)
  | min3 => cases h; exact biB (call_min3Nu hcalm) rb_min3 hg hm PyProof.Rows.boot_min ha hs (by decide) (by decide)
  | max2 => cases h; exact biB (call_max2 hcalm) rb_max2 hg hm PyProof.Rows.boot_max ha hs (by decide) (by decide)
  | sum => cases h; exact biB (cr_sum hcalm) (by rw [hK]; exact rb_sum) hg hm PyProof.Rows.boot_sum ha hs (by decide) (by decide)
  | tuple => cases h; exact biT call_tuple_of (by rw [hK]; exact rb_tuple) hg hm PyProof.Rows.boot_tuple ha hs (by decide) (by decide)
  | list => cases h; exact biT call_list_of (by rw [hK]; exact rb_list) hg hm PyProof.Rows.boot_list ha hs (by decide) (by decide)
  | sorted => cases h; exact biB cr_sorted (by rw [hK]; exact rb_sorted) hg hm PyProof.Rows.boot_sorted ha hs (by decide) (by decide)
  | any => cases h; exact biB (cr_any hcalm) (by rw [hK]; exact rb_any) hg hm boot_any' ha hs (by decide) (by decide)
  | all => cases h; exact biB (cr_all hcalm) (by rw [hK]; exact rb_all) hg hm boot_all' ha hs (by decide) (by decide)
  | _ => cases h
/-! ### isinstance -/
def tyNm : Bi → Option (Str × String)
  | .isint => some ("int", "int")
  | .isbool => some ("bool", "bool")
  | .isstr => some ("str", "str")
  | .istup => some ("tuple", "tuple")
  | .islst => some ("list", "list")
  | _ => none
def dTy : D → Option String
  | .non => some "NoneType"
  | .bl _ => some "bool"
  | .int _ => some "int"
  | .str _ => some "str"
  | .tup _ => some "tuple"
  | .lst _ => some "list"
  | .dic _ _ => some "dict"
  | _ => none
theorem isi_tab {b : Bi} {x : Str} {T t : String} {d : D} {r : D} (h : tyNm b = some (x, T)) (ht : dTy d = some t) (e : bi b [d] = some r) : ∃ q, r = .bl q ∧ kitB t T = some q := by
  cases b <;> cases h <;> cases d <;> cases ht <;> (injection e with e; subst e; refine ⟨_, rfl, ?_⟩; decide +kernel)
theorem rep_ty {H : Hp} {B : Bad} {Γ : List Addr} {v : V} {d : D} {t : String} (r : Rep S H B Γ v d) (ht : dTy d = some t) : TyX S.K H v (.type t) := by
  cases r <;> cases ht
  · exact .base .non
  · exact .base (.bl _)
  · exact .base (.int _)
  · exact .base (.str _)
  · rename_i a vs ds h q
    rcases h with (h | ⟨o, h⟩) | ⟨o, its, n, h, hc, _⟩
    · exact .base (.tup h)
    · exact .fTuple h
    · exact .kTuple h hc
  · rename_i h _ _
    exact .base (.lst h)
  · rename_i h _ _ _
    exact .base (.dK h)
theorem isi_ty {b : Bi} {x : Str} {T : String} {d r : D} (h : tyNm b = some (x, T)) (e : bi b [d] = some r) : ∃ t, dTy d = some t := by
  cases b <;> (try cases h) <;> cases d <;> first | exact ⟨_, rfl⟩ | cases e
theorem ty_boot {b : Bi} {x : Str} {T : String} (h : tyNm b = some (x, T)) : bootBuiltins x = some (.type T) ∧ x ≠ "__name__" ∧ (x == ("__debug__" : Str)) = false := by
  cases b <;> cases h <;> first
    | exact ⟨PyProof.Rows.boot_int, by decide, by decide⟩
    | exact ⟨PyProof.Rows.boot_bool, by decide, by decide⟩
    | exact ⟨PyProof.Rows.boot_str, by decide, by decide⟩
    | exact ⟨PyProof.Rows.boot_tuple, by decide, by decide⟩
    | exact ⟨PyProof.Rows.boot_list, by decide, by decide⟩
theorem eok_isi (hK : X.K = S.K) {b : Bi} {x : Str} {T : String} {e : Ex} {pe : Expr} {p p2 pos : Pos} (h : tyNm b = some (x, T)) (hg : Gl X "isinstance") (hm : X.mg "isinstance" = none) (hg2 : Gl X x) (hm2 : X.mg x = none) (ha : PE X pe (tD S H0 W C e)) (hs : unst pe = true) :
    PE X (.Call (.Name "isinstance" p) [pe, .Name x p2] [] pos) (tD S H0 W C (.bi b [e])) := by
  obtain ⟨hv, hn, hd⟩ := ty_boot h
  have h2 : PE X (.Name x p2) (tC (.ty T)) := pe_bltn hg2 hm2 hv rfl hn hd
  refine (pe_callB call_isi hg hm PyProof.Rows.boot_isinstance (pa_cons ha (pa_cons h2 pa_nil) (star_cons hs)) (by decide) (by decide) (star_cons hs) rfl).imp fun σ H Q ⟨env, g, B, Γ, sl, ce, hh⟩ => ?_
  have hh : Out S σ W H B Γ (((evE C e env g).bind fun d g => .ok [d] g).bind fun ds g => .of (bi b ds) g) _ := hh
  have hh : Out S σ W H B Γ ((evE C e env g).bind fun d g => .of (bi b [d]) g) (fun d g' H' B' Γ' => ∀ v, Rep S H' B' Γ' v d → (isF S.T (.bi b [e]) = true → FreshAt S H H' B' Γ' v d) → Q v H') := by
    cases ee : evE C e env g with
    | ok d g1 => rw [ee] at hh; exact hh
    | exc c p g1 => rw [ee] at hh; exact hh
    | no => rw [ee] at hh; exact hh
  refine tD_bind sl ce hh fun d1 g1 H1 B1 Γ1 v1 sl1 ce1 s1 r1 _ h1 => ?_
  obtain ⟨r, er, h3⟩ := h1.of
  obtain ⟨t, ht⟩ := isi_ty h er
  obtain ⟨q, eq, kq⟩ := isi_tab h ht er
  subst eq
  refine ⟨v1, .ty T, .type t, .type T, q, rfl, .ty T, by rw [hK]; exact rep_ty r1 ht, kit_ty kq, ?_⟩
  exact h3 H1 B1 Γ1 ce1 .refl _ (.bl q) fun z => trivial
/-! ### list(range(n)) -/
theorem eok_lrange (hcalm : X.calm = true) {e : Ex} {pe : Expr} {p p2 pos pos2 : Pos} (hg : Gl X "list") (hm : X.mg "list" = none) (hg2 : Gl X "range") (hm2 : X.mg "range" = none) (ha : PE X pe (tD S H0 W C e)) (hs : unst pe = true) :
    PE X (.Call (.Name "list" p) [.Call (.Name "range" p2) [pe] [] pos2] [] pos) (tD S H0 W C (.bi .lrange [e])) := by
  refine (pe_listRg hcalm hg hm (prg_1 hg2 hm2 ha (star_cons hs)) rfl).imp fun σ H Q ⟨env, g, B, Γ, sl, ce, hh⟩ => ?_
  have hh : Out S σ W H B Γ (((evE C e env g).bind fun d g => .ok [d] g).bind fun ds g => .of (bi .lrange ds) g) _ := hh
  have hh : Out S σ W H B Γ ((evE C e env g).bind fun d g => .of (bi .lrange [d]) g) (fun d g' H' B' Γ' => ∀ v, Rep S H' B' Γ' v d → (isF S.T (.bi .lrange [e]) = true → FreshAt S H H' B' Γ' v d) → Q v H') := by
    cases ee : evE C e env g with
    | ok d g1 => rw [ee] at hh; exact hh
    | exc c p g1 => rw [ee] at hh; exact hh
    | no => rw [ee] at hh; exact hh
  refine tD_bind sl ce hh fun d1 g1 H1 B1 Γ1 v1 sl1 ce1 s1 r1 _ h1 => ?_
  obtain ⟨r, er, h3⟩ := h1.of
  cases r1 with
  | int n =>
    obtain ⟨hl, he⟩ := ite_some er
    subst he
    rw [Bool.and_eq_true] at hl
    have h0 : 0 ≤ n := of_decide_eq_true hl.1
    have hl : n.toNat ≤ 1000000 := Nat.le_of_ble_eq_true hl.2
    refine ⟨n, rfl, ⟨by omega, by omega, by omega, by omega, ?_⟩, fun q hq => ?_⟩
    · rw [Int.sub_zero]; omega
    · have rr : Reps S H1 B1 Γ1 (rgV 0 n) (rangeI 0 n.toNat) := by
        unfold rgV rangeI
        rw [Int.sub_zero]
        have : ∀ l : List Nat, Reps S H1 B1 Γ1 (l.map fun (i : Nat) => V.int (0 + (i : Int))) (l.map fun (i : Nat) => D.int (0 + (i : Int))) := fun l => by
          induction l with
          | nil => exact .nil
          | cons a l ih => exact .cons (.int _) ih
        exact this _
      obtain ⟨x1, x2⟩ := new_lst ce1.ok hq rr
      exact h3 _ B1 Γ1 (ce1.same (same_laid hq)) (Same.step (same_laid hq)) _ x1 fun _ => s1.seqF x2
  | _ => cases er
end
end Rz

/-! RzS14 -/
set_option Elab.async false
set_option linter.all false
set_option maxRecDepth 100000
set_option maxHeartbeats 4000000
namespace Rz
open PySem PySem.Spec PyProof.Rows L2

section
variable {S : Inf} {H0 : Hp} {W : WX} {X : Cx} {C : Nat → List D → Gs → R D}
/-! ### chains of two -/
def chR (C : Nat → List D → Gs → R D) (p : Op) (c : Ex) (env : Env) (y : D) (g : Gs) : Option D → R D
  | some (.bl true) => (evE C c env g).bind fun z g => .of (op2 p y z) g
  | some (.bl false) => .ok (.bl false) g
  | _ => .no
theorem chain_law {o p : Op} {r r' : R2} {a b c : Ex} {σ : L2.St} {H : Hp} {Q : VK} (h1 : RO S r (op2 o)) (h2 : RO S r' (op2 p)) (h : tD S H0 W C (.chain o p a b c) σ H Q) : tChain r r' (tD S H0 W C a) (tD S H0 W C b) (tD S H0 W C c) σ H Q := by
  obtain ⟨env, g, B, Γ, sl, ce, h⟩ := h
  have h : Out S σ W H B Γ ((evE C a env g).bind fun x g => (evE C b env g).bind fun y g => chR C p c env y g (op2 o x y)) _ := h
  refine tD_bind sl ce h fun d1 g1 H1 B1 Γ1 v1 sl1 ce1 s1 r1 _ h => ?_
  refine tD_bind sl1 ce1 h fun d2 g2 H2 B2 Γ2 v2 sl2 ce2 s2 r2 _ h => ?_
  have r1' := r1.step ce1.ok s2
  cases e : op2 o d1 d2 with
  | none => rw [e] at h; exact h.elim
  | some d =>
    refine h1 H2 B2 Γ2 v1 v2 d1 d2 d _ ce2.ok r1' r2 e fun v H3 s3 r3 _ => ?_
    rw [e] at h
    cases d with
    | bl k =>
      refine ⟨k, r3.blv, ?_⟩
      cases k with
      | false =>
        simp only [Bool.false_eq_true, if_false]
        exact h H3 B2 Γ2 (ce2.same s3) (Same.step s3) _ (.bl false) fun _ => trivial
      | true =>
        simp only [if_true]
        have h : Out S σ W H2 B2 Γ2 ((evE C c env g2).bind fun z g => .of (op2 p d2 z) g) _ := h
        have h : Out S σ W H3 B2 Γ2 ((evE C c env g2).bind fun z g => .of (op2 p d2 z) g) (fun d g' H' B' Γ' => ∀ v, Rep S H' B' Γ' v d → (isF S.T (.chain o p a b c) = true → FreshAt S H H' B' Γ' v d) → Q v H') := by
          cases ee : (evE C c env g2).bind fun z g => R.of (op2 p d2 z) g with
          | ok d g' => rw [ee] at h; exact fun H' B' Γ' c s => h H' B' Γ' c ((Same.step s3).trans s)
          | exc x q g' => rw [ee] at h; exact fun H' B' Γ' cls dd c s => h H' B' Γ' cls dd c ((Same.step s3).trans s)
          | no => rw [ee] at h; exact h
        refine tD_bind (sl2.step ce2.ok (Same.step s3)) (ce2.same s3) h fun d3 g3 H4 B4 Γ4 v3 sl4 ce4 s4 r4 _ h => ?_
        obtain ⟨d, e, h⟩ := h.of
        refine h2 H4 B4 Γ4 v2 v3 d2 d3 d Q ce4.ok ((r2.step ce2.ok (Same.step s3)).step (ce2.same s3).ok s4) r4 e fun v H5 s5 r5 f => ?_
        exact h H5 B4 Γ4 (ce4.same s5) (Same.step s5) v r5 fun z => by cases z
    | _ => exact h.elim
theorem tD_tDT {e : Ex} {σ : L2.St} {H : Hp} {Q : Bool → Hp → Prop} (h : tDT S H0 W C e σ H Q) : tD S H0 W C e σ H fun x H' => ∃ k, x = .bl k ∧ Q k H' := by
  obtain ⟨env, g, B, Γ, sl, ce, h⟩ := h
  refine ⟨env, g, B, Γ, sl, ce, h.imp fun d g' H' B' Γ' c s ⟨b, ed, q⟩ v r _ => ?_⟩
  subst ed
  exact ⟨b, r.blv, q⟩
theorem eok_chain {o p : Op} {po pp : CmpOp} {r r' : R2} {a b c : Ex} {pa pb pc : Expr} {pos : Pos} (ho : OpR X (compareOp po) r) (h1 : RO S r (op2 o)) (hp : OpR X (compareOp pp) r') (h2 : RO S r' (op2 p))
    (ha : PE X pa (tD S H0 W C a)) (hb : PE X pb (tD S H0 W C b)) (hc : PE X pc (tD S H0 W C c)) (hm : lastMarks [po, pp] [pb, pc] = false) : PE X (.Compare pa [po, pp] [pb, pc] pos) (tD S H0 W C (.chain o p a b c)) :=
  (pe_chain ho hp ha hb hc hm).imp fun σ H Q h => chain_law h1 h2 h
theorem tok_chain {o p : Op} {po pp : CmpOp} {r r' : R2} {a b c : Ex} {pa pb pc : Expr} {pos : Pos} (ho : OpR X (compareOp po) r) (h1 : RO S r (op2 o)) (hp : OpR X (compareOp pp) r') (h2 : RO S r' (op2 p))
    (ha : PE X pa (tD S H0 W C a)) (hb : PE X pb (tD S H0 W C b)) (hc : PE X pc (tD S H0 W C c)) (hm : lastMarks [po, pp] [pb, pc] = false) : PT X (.Compare pa [po, pp] [pb, pc] pos) (tDT S H0 W C (.chain o p a b c)) :=
  (pt_chain ho hp ha hb hc hm).imp fun σ H Q h => chain_law h1 h2 (tD_tDT h)
/-! ### a comprehension -/
theorem eok_comp (hK : X.K = S.K) (hcalm : X.calm = true) (hN : X.N.Nodup) {e : Ex} {t : Tg} {k : ItK} {es c : List Ex} {elt tg iter : Expr} {ifs : List Expr} {scope : Scope} {own : List (Str × Nat)} {pos : Pos} (hi : PI X tg iter (tIt S H0 W C k es)) (ok : BlkOk X.N X.env.scope scope own) (ho : own.map (·.2) = t.ix)
    (hg : ∀ (s : Shared) (H : Hp) (Cl : Addr) (cl : List (Str × Addr)) (fp : List Addr), PG (X.blk s H scope (compEnvC scope cl Cl X.env) fp) tg (gOf S.K t))
    (ht : ∀ (s : Shared) (H : Hp) (Cl : Addr) (cl : List (Str × Addr)) (fp : List Addr), PTs (X.blk s H scope (compEnvC scope cl Cl X.env) fp) ifs (tCd S H0 WF0 C c))
    (he : ∀ (s : Shared) (H : Hp) (Cl : Addr) (cl : List (Str × Addr)) (fp : List Addr), PE (X.blk s H scope (compEnvC scope cl Cl X.env) fp) elt (tD S H0 WF0 C e)) (hs : noSet iter = true) :
    PE X (.ListComp elt [⟨tg, iter, ifs, 0⟩] scope pos) (tD S H0 W C (.comp e t k es c)) :=
  (pe_lc hcalm hN hi ok hg ht he (noSet_ok hs)).imp fun σ H Q h => by rw [ho]; exact lc_law h
end

/-! ### the check of expressions -/
def litB : D → Expr → Bool
  | .non, .Constant .none _ _ => true
  | .bl b, .Constant (.bool c) _ _ => b == c
  | .int i, .Constant (.int j) _ _ => decide (i = j)
  | .str s, .Constant (.str x) _ _ => decide (sOf s = x)
  | _, _ => false
theorem litB_ok {S : Inf} {X : Cx} {d : D} {e : Expr} (h : litB d e = true) : ∃ v, PE X e (tC v) ∧ ∀ H B Γ, Rep S H B Γ v d := by
  unfold litB at h
  split at h
  · exact ⟨_, pe_non, fun _ _ _ => .non⟩
  · rename_i b c _ _
    have : b = c := by simpa using h
    subst this
    exact ⟨_, pe_bl, fun _ _ _ => .bl b⟩
  · rename_i i j _ _
    have : i = j := of_decide_eq_true h
    subst this
    exact ⟨_, pe_int, fun _ _ _ => .int i⟩
  · rename_i s x _ _
    have : sOf s = x := of_decide_eq_true h
    subst this
    exact ⟨_, pe_str, fun _ _ _ => .str s⟩
  · cases h
mutual
def D.same : D → D → Bool
  | .non, .non => true
  | .bl a, .bl b => a == b
  | .int i, .int j => decide (i = j)
  | .str x, .str y => decide (x = y)
  | .tup xs, .tup ys => D.sames xs ys
  | _, _ => false
def D.sames : List D → List D → Bool
  | [], [] => true
  | x :: xs, y :: ys => D.same x y && D.sames xs ys
  | _, _ => false
end
mutual
theorem D.same_ok : ∀ {a b : D}, D.same a b = true → a = b
  | .non, b, h => by cases b <;> first | rfl | cases h
  | .bl x, b, h => by cases b <;> first | (have h : (x == _) = true := h; simp at h; rw [h]) | cases h
  | .int x, b, h => by cases b <;> first | (have h := of_decide_eq_true h; rw [h]) | cases h
  | .str x, b, h => by cases b <;> first | (have h := of_decide_eq_true h; rw [h]) | cases h
  | .tup x, b, h => by cases b <;> first | (have h := D.sames_ok h; rw [h]) | cases h
  | .lst x, b, h => by cases b <;> cases h
  | .dic x y, b, h => by cases b <;> cases h
  | .fn x, b, h => by cases b <;> cases h
  | .mref x, b, h => by cases b <;> cases h
  | .scr x, b, h => by cases b <;> cases h
theorem D.sames_ok : ∀ {a b : List D}, D.sames a b = true → a = b
  | [], [], _ => rfl
  | [], _ :: _, h => by cases h
  | _ :: _, [], h => by cases h
  | x :: xs, y :: ys, h => by
    have h : (D.same x y && D.sames xs ys) = true := h
    rw [Bool.and_eq_true] at h
    rw [D.same_ok h.1, D.sames_ok h.2]
end
def gloIn (l : List (List Nat × D)) (x : List Nat) (d : D) : Bool := l.any fun p => decide (p.1 = x) && D.same p.2 d
theorem gloIn_ok {l : List (List Nat × D)} {x : List Nat} {d : D} (h : gloIn l x d = true) : (x, d) ∈ l := by
  unfold gloIn at h
  rw [List.any_eq_true] at h
  obtain ⟨p, hp, h⟩ := h
  rw [Bool.and_eq_true] at h
  have h1 := of_decide_eq_true h.1
  have h2 := D.same_ok h.2
  obtain ⟨a, b⟩ := p
  simp only at h1 h2
  subst h1 h2
  exact hp
/-- a list of parts against its texts -/
def chkL (f : Ex → Expr → Bool) : List Ex → List Expr → Bool
  | [], [] => true
  | e :: es, p :: ps => unst p && f e p && chkL f es ps
  | _, _ => false
theorem chkL_st {f : Ex → Expr → Bool} : ∀ {es : List Ex} {ps : List Expr}, chkL f es ps = true → ps.all unst = true ∧ es.length = ps.length
  | [], [], _ => ⟨rfl, rfl⟩
  | [], _ :: _, h => by cases h
  | _ :: _, [], h => by cases h
  | e :: es, p :: ps, h => by
    have h : (unst p && f e p && chkL f es ps) = true := h
    rw [Bool.and_eq_true, Bool.and_eq_true] at h
    obtain ⟨h1, h2⟩ := chkL_st h.2
    exact ⟨by rw [List.all_cons, h.1.1, h1]; rfl, by rw [List.length_cons, List.length_cons, h2]⟩
/-! targets -/
mutual
def chkTg (N : List Str) (sc : Scope) (fs : Option Scope) : Tg → Expr → Bool
  | .nm i, p => match vName p with
    | some x => stB N sc fs i x
    | none => false
  | .tp ts, p => match vTup p with
    | some ps => chkTgs N sc fs ts ps
    | none => false
def chkTgs (N : List Str) (sc : Scope) (fs : Option Scope) : List Tg → List Expr → Bool
  | [], [] => true
  | t :: ts, p :: ps => unst p && chkTg N sc fs t p && chkTgs N sc fs ts ps
  | _, _ => false
end
def isTp : Expr → Bool
  | .Tuple _ _ _ => true
  | _ => false
/-- what is gone over -/
def chkIt (f : Ex → Expr → Bool) (sc : Scope) (tg : Expr) : ItK → List Ex → Expr → Bool
  | .seq, [e], p => f e p
  | .rng, es, p => match vCall p with
    | some (x, [a]) => decide (x = ("range" : Str)) && isK sc "range" .globalImplicit && chkL f es [a]
    | _ => false
  | .rng2, es, p => match vCall p with
    | some (x, [a, b]) => decide (x = ("range" : Str)) && isK sc "range" .globalImplicit && chkL f es [a, b]
    | _ => false
  | .zip, es, p => match vCall p with
    | some (x, [a, b]) => decide (x = ("zip" : Str)) && isK sc "zip" .globalImplicit && chkL f es [a, b] && isTp tg
    | _ => false
  | .enum, es, p => match vCall p with
    | some (x, [a]) => decide (x = ("enumerate" : Str)) && isK sc "enumerate" .globalImplicit && chkL f es [a] && isTp tg
    | _ => false
  | _, _, _ => false
def blkB (N : List Str) (sc scope : Scope) (ix : List Nat) : Bool :=
  decide (scope.kind = .function) && (scope.names.all fun y => decide (scope.names.lookup y.1 = some y.2)) && (ix.all fun i => (N[i]?).isSome) &&
  (scope.names.all fun y => !(decide (y.2 = .free)) || (isK sc y.1 .cell || isK sc y.1 .free)) &&
  (scope.names.all fun y => !(decide (y.2 = .local) || decide (y.2 = .cell)) || ((ix.any fun i => decide (N[i]? = some y.1)) || !(N.contains y.1)))
def ownOf (N : List Str) (ix : List Nat) : List (Str × Nat) := ix.map fun i => ((N[i]?).getD "", i)
theorem ownOf_ix (N : List Str) (ix : List Nat) : (ownOf N ix).map (·.2) = ix := by
  unfold ownOf
  rw [List.map_map]
  exact List.map_id' ix
theorem blkB_ok {N : List Str} {sc scope : Scope} {ix : List Nat} (h : blkB N sc scope ix = true) : BlkOk N sc scope (ownOf N ix) := by
  unfold blkB at h
  simp only [Bool.and_eq_true, List.all_eq_true] at h
  obtain ⟨⟨⟨⟨h1, h2⟩, h3⟩, h4⟩, h5⟩ := h
  refine ⟨of_decide_eq_true h1, fun y hy => of_decide_eq_true (h2 y hy), fun p hp => ?_, fun y hy e => ?_, fun y hy e => ?_⟩
  · obtain ⟨i, hi, rfl⟩ := List.mem_map.mp hp
    have := h3 i hi
    show N[i]? = some ((N[i]?).getD "")
    cases q : N[i]? with
    | none => rw [q] at this; cases this
    | some x => rfl
  · have := h4 y hy
    rw [e] at this
    simp only [decide_true, Bool.not_true, Bool.false_or, Bool.or_eq_true] at this
    exact this.imp isK_ok isK_ok
  · have := h5 y hy
    have hh : (decide (y.2 = .local) || decide (y.2 = .cell)) = true := by
      rcases e with e | e <;> simp [e]
    rw [hh] at this
    simp only [Bool.not_true, Bool.false_or, Bool.or_eq_true, List.any_eq_true] at this
    rcases this with ⟨i, hi, q⟩ | q
    · left
      have q := of_decide_eq_true q
      refine List.mem_map.mpr ⟨((N[i]?).getD "", i), List.mem_map.mpr ⟨i, hi, rfl⟩, ?_⟩
      simp [q]
    · right
      simpa using q
end Rz

/-! ### methods -/
namespace Rz
open PySem PySem.Spec PyProof.Rows L2
section
variable {S : Inf} {H0 : Hp} {W : WX} {X : Cx} {C : Nat → List D → Gs → R D}
structure RMt (S : Inf) (T : String) (r : V → List V → Hp → VK → Prop) (b : Bi) : Prop where
  ty : ∀ H B Γ v d, Rep S H B Γ v d → mtyp b d = true → tyV S.K T v H
  run : ∀ H B Γ v vs d ds e Q, BadOk H B Γ → Rep S H B Γ v d → Reps S H B Γ vs ds → mtyp b d = true → bi b (d :: ds) = some e → (∀ w H', L2.Same H H' → Rep S H' B Γ w e → FreshAt S H H' B Γ w e → Q w H') → r v vs H Q
theorem eok_meth {T : String} {r : V → List V → Hp → VK → Prop} {b : Bi} {a : Ex} {es : List Ex} {pe : Expr} (h : PE X pe (tBM S.K T r (tD S H0 W C a) (tDs S H0 W C es))) (hr : RMt S T r b) : PE X pe (tD S H0 W C (.meth b a es)) := by
  refine h.imp fun σ H Q ⟨env, g, B, Γ, sl, ce, hh⟩ => ?_
  have hh : Out S σ W H B Γ ((evE C a env g).bind fun x g => if mtyp b x then (evEs C es env g).bind fun ds g => .of (bi b (x :: ds)) g else .no) _ := hh
  refine tD_bind sl ce hh fun d g1 H1 B1 Γ1 v sl1 ce1 s1 r1 _ h1 => ?_
  cases hm : mtyp b d with
  | false => rw [hm] at h1; exact h1.elim
  | true =>
    rw [hm] at h1
    refine ⟨hr.ty H1 B1 Γ1 v d r1 hm, ?_⟩
    refine tDs_bindL sl1 ce1 h1 fun ds g2 H2 B2 Γ2 vs hlen sl2 ce2 s2 r2 h2 => ?_
    obtain ⟨e, ee, h3⟩ := h2.of
    exact hr.run H2 B2 Γ2 v vs d ds e Q ce2.ok (r1.step ce1.ok s2) r2 hm ee fun w H3 s3 r3 fr => h3 H3 B2 Γ2 (ce2.same s3) (Same.step s3) w r3 fun _ => s1.seqF (s2.seqF fr)
theorem eqV_ii (i j : Int) : eqV (.int i) (.int j) = (i == j) := rfl
theorem rm_index : RMt S "list" (rIndex S.K) .index where
  ty := fun H B Γ v d r h => by
    cases r with
    | lst hx nb q => exact .inl ⟨rfl, _, SqL.of hx⟩
    | _ => cases h
  run := fun H B Γ v vs d ds e Q ok r rs hm he k => by
    cases r with
    | @lst a us xs hx nb q =>
      match ds, rs, he with
      | [y], rs, he =>
        obtain ⟨w, rfl, ry⟩ := reps1 rs
        cases ry with
        | int i =>
          have he : ((intsOf xs).bind fun ns => (ns.findIdx? (· == i)).map fun j => D.int (j : Nat)) = some e := he
          cases e1 : intsOf xs with
          | none => rw [e1] at he; cases he
          | some ns =>
            rw [e1] at he
            have he : ((ns.findIdx? (· == i)).map fun j => D.int ((j : Nat) : Int)) = some e := he
            cases e2 : ns.findIdx? (· == i) with
            | none => rw [e2] at he; cases he
            | some j =>
              rw [e2] at he
              injection he with he
              subst he
              obtain ⟨ev, _⟩ := reps_ints q e1
              subst ev
              rw [List.findIdx?_eq_some_iff_getElem] at e2
              obtain ⟨hj, hp, hn⟩ := e2
              refine ⟨a, ns.map V.int, .int i, j, .int ns[j], rfl, rfl, SqL.of hx, rfl, ?_, ?_, ?_, fun m z hm hz => ?_, k _ H (L2.Same.refl H) (.int _) trivial⟩
              · rw [List.all_map]; exact List.all_eq_true.mpr fun _ _ => rfl
              · simp [hj]
              · rw [eqV_ii]; exact hp
              · have hm' : m < ns.length := by omega
                simp [hm'] at hz
                subst hz
                rw [eqV_ii]
                have := hn m hm
                simpa using this
        | _ => cases he
      | [], _, he => cases he
      | _ :: _ :: _, _, he => cases he
    | _ => cases hm
end
/-- a call of a method -/
def vMth : Expr → Option (Expr × Str × List Expr × Bool)
  | .Call (.Attribute o m ap) es [] cp => some (o, m, es, ap.endLine == cp.line)
  | _ => none
theorem vMth_ok {e o : Expr} {m : Str} {es : List Expr} {b : Bool} (h : vMth e = some (o, m, es, b)) : ∃ ap cp, e = .Call (.Attribute o m ap) es [] cp ∧ (ap.endLine == cp.line) = b := by
  unfold vMth at h
  split at h
  · injection h with h; injection h with h1 h; injection h with h2 h; injection h with h3 h4; subst h1 h2 h3 h4; exact ⟨_, _, rfl, rfl⟩
  · cases h
end Rz

/-! RzZ1 -/
set_option Elab.async false
set_option linter.all false
set_option maxRecDepth 100000
set_option maxHeartbeats 4000000
namespace Rz
open PySem PySem.Spec PyProof.Rows L2
open Sem (wp)

/-! ### a zip whose tuples stay out -/
section
variable {prog : Program} {w : World} {A : Around} {E : Value → Shared → Prop} {s : Shared} {z TI TO T i1 i2 : Addr} {f : Bool} {oT : Obj} {fp1 fp2 : List Addr} {n1 n2 i : Nat} {P1 P2 : Nat → Value → Prop} {St1 St2 : Nat → Heap → Prop}
theorem zipH_next_item {Q : Value → Shared → Prop} (S : ZipSep2 z TI TO i1 i2 fp1 fp2) (D1 : Draws prog w A i1 fp1 n1 P1 St1) (D2 : Draws prog w A i2 fp2 n2 P2 St2)
    (hz : IsZipHeld s.heap z TI TO T f) (hT : s.heap.get? T = some oT) (hTI : IsTupOf2 s.heap TI (.ref i1) (.ref i2)) (st1 : St1 i s.heap) (st2 : St2 i s.heap) (hlt1 : i < n1) (hlt2 : i < n2)
    (hQ : ∀ x1 x2 h' tk, P1 i x1 → P2 i x2 → IsZipHeld h' z TI TO T true → St1 (i + 1) h' → St2 (i + 1) h' → IsTupOf2 h' s.heap.objs.size x1 x2 → h'.objs.size = s.heap.objs.size + 1 →
      (∀ c o, c ≠ z → c ≠ i1 → c ≠ i2 → s.heap.get? c = some o → h'.get? c = some o) → Q (.ref s.heap.objs.size) { s with heap := h', toks := tk }) :
    wpAny (model prog w) A (Builtin.«zip.__next__» ⟨[.ref z], []⟩) (fun fin s' => ∃ v, fin = .done (.ret v) ∧ Q v s') E s := by
  obtain ⟨hp, g, d, tk0, os⟩ := s
  show wpAny _ _ (field (.ref z) 2 >>= _) _ _ _
  refine wpAny_bind (wpAny_field hz rfl (x := .bool false) rfl ?_)
  show wpAny _ _ (field (.ref z) 3 >>= _) _ _ _
  refine wpAny_bind (wpAny_field hz rfl (x := .ref TI) rfl ?_)
  refine wpAny_bind (wpAny_seqItems hTI rfl ?_)
  show wpAny _ _ (Builtin.SmallTypes.ownedTupleIsFree (.ref z) >>= _) _ _ _
  refine wpAny_bind (wpAny_tupleHeld_zip hz hT fun g0 hz0 hs0 => ?_)
  replace hs0 : Heap.SameBut z hp g0 := hs0
  simp only [Bool.false_eq_true, if_false]
  refine wpAny_bind ?_
  rw [← Array.forIn_toList]
  simp only [List.forIn_cons, List.forIn_nil]
  refine wpAny_bind (wpAny_bind (wpAny_holding ?_))
  show wpAny _ _ (Builtin.SmallTypes.nextOf (.ref i1) >>= _) _ _ ⟨g0, g, d, tk0, os⟩
  refine wpAny_bind (D1.item i _ _ _ hlt1 (D1.over st1 hs0 S.zf1) fun x1 p1 tk1 hx1 sn1 hp1 => wpAny_pure ?_)
  replace hp1 : Heap.SameBut i1 g0 p1 := hp1
  refine wpAny_pure ?_
  refine wpAny_bind (wpAny_bind (wpAny_holding ?_))
  show wpAny _ _ (Builtin.SmallTypes.nextOf (.ref i2) >>= _) _ _ ⟨p1, g, d, tk1, os⟩
  refine wpAny_bind (D2.item i _ _ _ hlt2 (D2.over (D2.over st2 hs0 S.zf2) hp1 S.sep1_2) fun x2 p2 tk2 hx2 sn2 hp2 => wpAny_pure ?_)
  replace hp2 : Heap.SameBut i2 p1 p2 := hp2
  refine wpAny_pure (wpAny_pure ?_)
  show wpAny _ _ (newTuple [x1, x2] >>= _) _ _ _
  refine wpAny_bind (wpAny_newTuple ?_)
  have hsz : p2.objs.size = hp.objs.size := by rw [hp2.1, hp1.1, hs0.1]
  have hz3 : IsZipHeld p2 z TI TO T true := hp2.extBut _ _ S.zi2 (hp1.extBut _ _ S.zi1 hz0)
  have hk : ∀ c o, c ≠ z → c ≠ i1 → c ≠ i2 → hp.get? c = some o → p2.get? c = some o := fun c o c1 c2 c3 e => hp2.extBut _ _ c3 (hp1.extBut _ _ c2 (hs0.extBut _ _ c1 e))
  have j1 : St1 (i + 1) p2 := D1.over sn1 hp2 S.sep2_1
  refine wpAny_pure ⟨_, rfl, ?_⟩
  show Q (.ref p2.objs.size) _
  have hpn : IsTupOf2 (p2.push { cls := .type "tuple", data := .seq #[x1, x2] }) p2.objs.size x1 x2 := Heap.get?_push_size _ rfl
  have hz4 : (p2.push { cls := .type "tuple", data := .seq #[x1, x2] }).objs.size = p2.objs.size + 1 := Heap.size_push ..
  rw [hsz] at hpn hz4 ⊢
  exact hQ x1 x2 _ tk2 hx1 hx2 (Heap.get?_push_of_some _ hz3) (D1.frame _ _ _ j1 fun b _ o e => Heap.get?_push_of_some _ e) (D2.frame _ _ _ sn2 fun b _ o e => Heap.get?_push_of_some _ e) hpn hz4 fun c o c1 c2 c3 e => Heap.get?_push_of_some _ (hk c o c1 c2 c3 e)
theorem zipH_next_end {Q : Fin → Shared → Prop} (S : ZipSep2 z TI TO i1 i2 fp1 fp2) (D1 : Draws prog w A i1 fp1 n1 P1 St1) (D2 : Draws prog w A i2 fp2 n2 P2 St2)
    (hz : IsZipHeld s.heap z TI TO T f) (hT : s.heap.get? T = some oT) (hTI : IsTupOf2 s.heap TI (.ref i1) (.ref i2)) (st1 : St1 i s.heap) (st2 : St2 i s.heap) (hle1 : i ≤ n1) (hle2 : i ≤ n2) (hend : i = n1 ∨ i = n2)
    (hE : ∀ h' tk e, (∀ c o, c ≠ z → c ≠ i1 → c ≠ i2 → s.heap.get? c = some o → h'.get? c = some o) → (∃ o, h'.get? e = some o ∧ o.cls = .type "StopIteration") → E (.ref e) { s with heap := h', toks := tk }) :
    wpAny (model prog w) A (Builtin.«zip.__next__» ⟨[.ref z], []⟩) Q E s := by
  obtain ⟨hp, g, d, tk0, os⟩ := s
  show wpAny _ _ (field (.ref z) 2 >>= _) _ _ _
  refine wpAny_bind (wpAny_field hz rfl (x := .bool false) rfl ?_)
  show wpAny _ _ (field (.ref z) 3 >>= _) _ _ _
  refine wpAny_bind (wpAny_field hz rfl (x := .ref TI) rfl ?_)
  refine wpAny_bind (wpAny_seqItems hTI rfl ?_)
  show wpAny _ _ (Builtin.SmallTypes.ownedTupleIsFree (.ref z) >>= _) _ _ _
  refine wpAny_bind (wpAny_tupleHeld_zip hz hT fun g0 hz0 hs0 => ?_)
  replace hs0 : Heap.SameBut z hp g0 := hs0
  simp only [Bool.false_eq_true, if_false]
  refine wpAny_bind ?_
  rw [← Array.forIn_toList]
  simp only [List.forIn_cons, List.forIn_nil]
  refine wpAny_bind (wpAny_bind (wpAny_holding ?_))
  show wpAny _ _ (Builtin.SmallTypes.nextOf (.ref i1) >>= _) _ _ ⟨g0, g, d, tk0, os⟩
  by_cases hlt1 : i < n1
  · refine wpAny_bind (D1.item i _ _ _ hlt1 (D1.over st1 hs0 S.zf1) fun x1 p1 tk1 hx1 sn1 hp1 => wpAny_pure ?_)
    replace hp1 : Heap.SameBut i1 g0 p1 := hp1
    refine wpAny_pure ?_
    have hi2 : i = n2 := by omega
    refine wpAny_bind (wpAny_bind (wpAny_holding ?_))
    show wpAny _ _ (Builtin.SmallTypes.nextOf (.ref i2) >>= _) _ _ ⟨p1, g, d, tk1, os⟩
    refine wpAny_bind (D2.done ⟨p1, g, d, tk1, os⟩ _ _ (by rw [← hi2]; exact D2.over (D2.over st2 hs0 S.zf2) hp1 S.sep1_2) fun q e hq he => ?_)
    replace hq : Heap.ExtBut i2 p1 q := hq
    exact hE q tk1 e (fun c o c1 c2 c3 x => hq _ _ c3 (hp1.extBut _ _ c2 (hs0.extBut _ _ c1 x))) he
  · have hi1 : i = n1 := by omega
    refine wpAny_bind (D1.done ⟨g0, g, d, tk0, os⟩ _ _ (by rw [← hi1]; exact D1.over st1 hs0 S.zf1) fun q e hq he => ?_)
    replace hq : Heap.ExtBut i1 g0 q := hq
    exact hE q tk0 e (fun c o c1 c2 _ x => hq _ _ c2 (hs0.extBut _ _ c1 x)) he
theorem wpAny_pyNext_zipH_item {Q : Option Value → Shared → Prop} (S : ZipSep2 z TI TO i1 i2 fp1 fp2) (D1 : Draws prog w A.in1 i1 fp1 n1 P1 St1) (D2 : Draws prog w A.in1 i2 fp2 n2 P2 St2)
    (hz : IsZipHeld s.heap z TI TO T f) (hT : s.heap.get? T = some oT) (hTI : IsTupOf2 s.heap TI (.ref i1) (.ref i2)) (st1 : St1 i s.heap) (st2 : St2 i s.heap) (hlt1 : i < n1) (hlt2 : i < n2)
    (hQ : ∀ x1 x2 h' tk, P1 i x1 → P2 i x2 → IsZipHeld h' z TI TO T true → St1 (i + 1) h' → St2 (i + 1) h' → IsTupOf2 h' s.heap.objs.size x1 x2 → h'.objs.size = s.heap.objs.size + 1 →
      (∀ c o, c ≠ z → c ≠ i1 → c ≠ i2 → s.heap.get? c = some o → h'.get? c = some o) → Q (some (.ref s.heap.objs.size)) { s with heap := h', toks := tk }) :
    wpAny (model prog w) A (pyNext (.ref z)) Q E s := by
  have hTy : s.TypeIs (.ref z) "zip" := ⟨_, hz, rfl⟩
  unfold pyNext
  exact wpAny_bind (wpAny_attempt (wpAny_callSpecial?_slot (name := Str.ofString "__next__") hTy F.slot_zip_next
    (wpAny_call_entry F.slot_zip_next hTy F.entry_zip_next
      (zipH_next_item S D1 D2 hz hT hTI st1 st2 hlt1 hlt2 fun x1 x2 h' tk y1 y2 a1 a3 a4 a5 a6 a7 => wpAny_pure (hQ x1 x2 h' tk y1 y2 a1 a3 a4 a5 a6 a7)) (F.args_zip_next_1 _))))
theorem wpAny_pyNext_zipH_end {Q : Option Value → Shared → Prop} (S : ZipSep2 z TI TO i1 i2 fp1 fp2) (D1 : Draws prog w A.in1 i1 fp1 n1 P1 St1) (D2 : Draws prog w A.in1 i2 fp2 n2 P2 St2)
    (hz : IsZipHeld s.heap z TI TO T f) (hT : s.heap.get? T = some oT) (hTI : IsTupOf2 s.heap TI (.ref i1) (.ref i2)) (st1 : St1 i s.heap) (st2 : St2 i s.heap) (hle1 : i ≤ n1) (hle2 : i ≤ n2) (hend : i = n1 ∨ i = n2)
    (hQ : ∀ h' tk, (∀ c o, c ≠ z → c ≠ i1 → c ≠ i2 → s.heap.get? c = some o → h'.get? c = some o) → Q none { s with heap := h', toks := tk }) :
    wpAny (model prog w) A (pyNext (.ref z)) Q E s := by
  have hTy : s.TypeIs (.ref z) "zip" := ⟨_, hz, rfl⟩
  unfold pyNext
  refine wpAny_bind (wpAny_attempt (wpAny_callSpecial?_slot (name := Str.ofString "__next__") hTy F.slot_zip_next
    (wpAny_call_entry F.slot_zip_next hTy F.entry_zip_next (zipH_next_end S D1 D2 hz hT hTI st1 st2 hle1 hle2 hend fun h' tk e hk he => ?_) (F.args_zip_next_1 _))))
  obtain ⟨o, ho, hc⟩ := he
  refine wpAny_bind (wpAny_isInstance (T := "StopIteration") (b := true) ⟨o, ho, hc⟩ isSubtype_stop ?_)
  exact wpAny_pure (hQ _ _ hk)
end
theorem Src.At.at_ {h h' : Heap} {its : Array Value} {c : Src} (x : c.At h its) (k : ∀ o, h.get? c.ad = some o → h'.get? c.ad = some o) : c.At h' its := by
  cases c with
  | l a => exact Heap.IsList.at x k
  | t a => exact Heap.IsTuple.at x k
theorem Src.At.live {h : Heap} {its : Array Value} {c : Src} (x : c.At h its) : ∃ o, h.get? c.ad = some o := by
  cases c with
  | l a => obtain ⟨o, e, _⟩ := x; exact ⟨o, e⟩
  | t a => obtain ⟨o, e, _⟩ := x; exact ⟨o, e⟩
/-- dict(zip(..)) over two sources -/
theorem pairArg_zipS {prog : Program} {w : World} {n z TI TO i1 i2 : Addr} {c d : Src} (Z : ZAt n z TI TO i1 i2 c d) (xs ys : Array Value) :
    PairArg prog w "zip" z [z, TI, TO, i1, i2, c.ad, d.ad] [z, TO, i1, i2] (min xs.size ys.size) (fun i k v => xs[i]? = some k ∧ ys[i]? = some v)
      (fun h => IsZip h z TI TO .none ∧ IsTupOf2 h TI (.ref i1) (.ref i2) ∧ (∃ a1 a2, IsTupOf2 h TO a1 a2) ∧ (c.It h i1 0 ∧ c.At h xs) ∧ (d.It h i2 0 ∧ d.At h ys)) where
  type := fun s ok => ⟨_, ok.1, rfl⟩
  notDict := by decide
  keep := fun h h' ok hk => by
    obtain ⟨hz, hTI, ⟨a1, a2, hTO⟩, ⟨c1, c2⟩, d1, d2⟩ := ok
    exact ⟨hk _ _ hz, hk _ _ hTI, ⟨a1, a2, hk _ _ hTO⟩, ⟨c1.at_ fun o e => hk _ o e, c2.at_ fun o e => hk _ o e⟩, d1.at_ fun o e => hk _ o e, d2.at_ fun o e => hk _ o e⟩
  there := fun h ok b hb => by
    obtain ⟨hz, hTI, ⟨a1, a2, hTO⟩, ⟨c1, c2⟩, d1, d2⟩ := ok
    simp only [List.mem_cons, List.not_mem_nil, or_false] at hb
    rcases hb with q | q | q | q | q | q | q
    · rw [q]; exact ⟨_, hz⟩
    · rw [q]; exact ⟨_, hTI⟩
    · rw [q]; exact ⟨_, hTO⟩
    · rw [q]; obtain ⟨o, e, _⟩ := c1.rec_; exact ⟨o, e⟩
    · rw [q]; obtain ⟨o, e, _⟩ := d1.rec_; exact ⟨o, e⟩
    · rw [q]; exact c2.live
    · rw [q]; exact d2.live
  sub := fun b hb => by
    simp only [List.mem_cons, List.not_mem_nil, or_false] at hb ⊢
    rcases hb with q | q | q | q <;> simp [q]
  noKeys := fun A s Q E hA ok h => getAttrOr_miss_zip ok.1 rfl rfl rfl zip_no_keys (by decide +kernel) hA h
  iter := fun A s dd Q E hA ok hd hdf h => by
    obtain ⟨hz, hTI, ⟨a1, a2, hTO⟩, ⟨c1, c2⟩, d1, d2⟩ := ok
    simp only [List.mem_cons, List.not_mem_nil, or_false, not_or] at hdf
    obtain ⟨dz, dTI, dTO, di1, di2, dc, ddd⟩ := hdf
    have hh : A.in1.handled = none := hA
    have D1 := Src.draws (prog := prog) (w := w) hh c i1 (n_ne1 Z.c Z.i1) xs
    have D2 := Src.draws (prog := prog) (w := w) hh d i2 (n_ne2 Z.d Z.i2) ys
    have S := Z.sep
    refine wpAny_pyIter_zip hz (h z [z, TO, i1, i2] (fun i h => (c.It h i1 i ∧ c.At h xs) ∧ (d.It h i2 i ∧ d.At h ys) ∧ IsTupOf2 h TI (.ref i1) (.ref i2) ∧
      ((IsZip h z TI TO .none ∧ ∃ a1 a2, IsTupOf2 h TO a1 a2) ∨ ∃ T f oT, IsZipHeld h z TI TO T f ∧ h.get? T = some oT ∧ T ≠ z ∧ T ≠ i1 ∧ T ≠ i2 ∧ T ≠ dd)) s.heap s.toks ?_
      ⟨⟨c1, c2⟩, ⟨d1, d2⟩, hTI, .inl ⟨hz, a1, a2, hTO⟩⟩ (fun _ _ e => e) fun b hb => .inl hb)
    exact {
      off := fun hm => by
        simp only [List.mem_cons, List.not_mem_nil, or_false] at hm
        rcases hm with x | x | x | x
        · exact dz x
        · exact dTO x
        · exact di1 x
        · exact di2 x
      frame := fun i h₁ h₂ st hk => by
        obtain ⟨⟨c1, c2⟩, ⟨d1, d2⟩, hTI, hz⟩ := st
        refine ⟨⟨c1.at_ fun o e => hk _ o (Ne.symm di1) e, c2.at_ fun o e => hk _ o (Ne.symm dc) e⟩, ⟨d1.at_ fun o e => hk _ o (Ne.symm di2) e, d2.at_ fun o e => hk _ o (Ne.symm ddd) e⟩, hk _ _ (Ne.symm dTI) hTI, ?_⟩
        rcases hz with ⟨hz, a1, a2, hTO⟩ | ⟨T, f, oT, hz, hT, r1, r2, r3, r4⟩
        · exact .inl ⟨hk _ _ (Ne.symm dz) hz, a1, a2, hk _ _ (Ne.symm dTO) hTO⟩
        · exact .inr ⟨T, f, oT, hk _ _ (Ne.symm dz) hz, hk _ _ r4 hT, r1, r2, r3, r4⟩
      item := fun i s₁ Q₁ E₁ hi st hds hQ => by
        obtain ⟨⟨c1, c2⟩, ⟨d1, d2⟩, hTI, hz⟩ := st
        have hi1 : i < xs.size := by omega
        have hi2 : i < ys.size := by omega
        have lt : ∀ {c o}, s₁.heap.get? c = some o → s₁.heap.objs.size ≠ c := fun e => Nat.ne_of_gt (Heap.lt_size e)
        have l1 : s₁.heap.objs.size ≠ i1 := by obtain ⟨_, e, _⟩ := c1.rec_; exact lt e
        have l2 : s₁.heap.objs.size ≠ i2 := by obtain ⟨_, e, _⟩ := d1.rec_; exact lt e
        rcases hz with ⟨hz, a1, a2, hTO⟩ | ⟨T, f, oT, hz, hT, r1, r2, r3, r4⟩
        · refine wpAny_pyNext_zipD2_item S D1 D2 hz hTI hTO ⟨c1, c2⟩ ⟨d1, d2⟩ hi1 hi2 fun x1 x2 h' tk y1 y2 b1 b2 e1 e2 b5 b6 hk => ?_
          exact hQ s₁.heap.objs.size x1 x2 h' tk ⟨y1, y2⟩ (.inl ⟨_, b5, rfl, _, rfl⟩)
            ⟨e1, e2, hk _ _ S.TIz S.TITO S.TIi1 S.TIi2 hTI, .inr ⟨s₁.heap.objs.size, false, _, b1, b5, lt hz, l1, l2, Nat.ne_of_gt hds⟩⟩
            fun b o hb e => hk b o (fun x => hb (by simp [x])) (fun x => hb (by simp [x])) (fun x => hb (by simp [x])) (fun x => hb (by simp [x])) e
        · refine wpAny_pyNext_zipH_item S D1 D2 hz hT hTI ⟨c1, c2⟩ ⟨d1, d2⟩ hi1 hi2 fun x1 x2 h' tk y1 y2 b1 e1 e2 b5 b6 hk => ?_
          exact hQ s₁.heap.objs.size x1 x2 h' tk ⟨y1, y2⟩ (.inl ⟨_, b5, rfl, _, rfl⟩)
            ⟨e1, e2, hk _ _ S.TIz S.TIi1 S.TIi2 hTI, .inr ⟨T, true, oT, b1, hk _ _ r1 r2 r3 hT, r1, r2, r3, r4⟩⟩
            fun b o hb e => hk b o (fun x => hb (by simp [x])) (fun x => hb (by simp [x])) (fun x => hb (by simp [x])) e
      done := fun s₁ Q₁ E₁ st hQ => by
        obtain ⟨⟨c1, c2⟩, ⟨d1, d2⟩, hTI, hz⟩ := st
        have e1 : min xs.size ys.size = xs.size ∨ min xs.size ys.size = ys.size := by omega
        rcases hz with ⟨hz, a1, a2, hTO⟩ | ⟨T, f, oT, hz, hT, r1, r2, r3, r4⟩
        · exact wpAny_pyNext_zipD2_end S D1 D2 hz hTI hTO ⟨c1, c2⟩ ⟨d1, d2⟩ (by omega) (by omega) e1 fun h' tk hk => hQ h' tk fun b o hb e => hk b o (fun x => hb (by simp [x])) (fun x => hb (by simp [x])) (fun x => hb (by simp [x])) (fun x => hb (by simp [x])) e
        · exact wpAny_pyNext_zipH_end S D1 D2 hz hT hTI ⟨c1, c2⟩ ⟨d1, d2⟩ (by omega) (by omega) e1 fun h' tk hk => hQ h' tk fun b o hb e => hk b o (fun x => hb (by simp [x])) (fun x => hb (by simp [x])) (fun x => hb (by simp [x])) e }
end Rz

/-! RzZ2 -/
set_option Elab.async false
set_option linter.all false
set_option maxRecDepth 100000
set_option maxHeartbeats 4000000
namespace Rz
open PySem PySem.Spec PyProof.Rows L2

/-! ### keys -/
theorem sOf_cps (x : Str) : sOf x.cps.toList = x := by
  unfold sOf
  simp
theorem cps_sOf (l : List Nat) : (sOf l).cps.toList = l := by
  unfold sOf
  simp
theorem keyD_eqv (a b : Key) : D.eqv (keyD a) (keyD b) = decide (a = b) := by
  cases a with
  | inl i => cases b with
    | inl j =>
      show (i == j) = _
      by_cases h : i = j <;> simp [h]
    | inr y => simp [keyD, D.eqv]
  | inr x => cases b with
    | inl j => simp [keyD, D.eqv]
    | inr y =>
      show (x.cps.toList == y.cps.toList) = _
      by_cases h : x = y
      · subst h; simp
      · have : ¬ x.cps.toList = y.cps.toList := fun e => h (by rw [← sOf_cps x, e, sOf_cps])
        simp only [Sum.inr.injEq, h, decide_false]
        exact beq_false_of_ne this
section
variable {S : Inf} {H : Hp} {B : Bad} {Γ : List Addr}
/-- keys that are data -/
theorem key_of_rep {v : V} {d : D} (r : Rep S H B Γ v d) (h : keyOk d = true) : ∃ k : Key, v = kV k ∧ d = keyD k := by
  cases r with
  | int i => exact ⟨.inl i, rfl, rfl⟩
  | str l => exact ⟨.inr (sOf l), rfl, by show D.str l = D.str _; rw [cps_sOf]⟩
  | _ => cases h
theorem keys_of_reps : ∀ {vs : List V} {ds : List D}, Reps S H B Γ vs ds → ds.all keyOk = true → ∃ ks : List Key, vs = ks.map kV ∧ ds = ks.map keyD
  | _, _, .nil, _ => ⟨[], rfl, rfl⟩
  | _, _, .cons r rs, h => by
    rw [List.all_cons, Bool.and_eq_true] at h
    obtain ⟨k, e1, e2⟩ := key_of_rep r h.1
    obtain ⟨ks, e3, e4⟩ := keys_of_reps rs h.2
    exact ⟨k :: ks, by rw [e1, e3]; rfl, by rw [e2, e4]; rfl⟩
theorem dhas_key (k : Key) (kvs : List (Key × V)) : dhas (keyD k) (kvs.map fun p => keyD p.1) = kvs.any fun kv => decide (kv.1 = k) := by
  unfold dhas
  rw [List.any_map]
  congr 1
  funext p
  exact keyD_eqv p.1 k
theorem reps_app : ∀ {vs us : List V} {ds es : List D}, Reps S H B Γ vs ds → Reps S H B Γ us es → Reps S H B Γ (vs ++ us) (ds ++ es)
  | _, _, _, _, .nil, r => r
  | _, _, _, _, .cons h t, r => .cons h (reps_app t r)
theorem reps_repl {k : Key} {v : V} {d : D} (r : Rep S H B Γ v d) : ∀ {kvs : List (Key × V)} {ds : List D}, Reps S H B Γ (kvs.map (·.2)) ds →
    Reps S H B Γ ((kvs.map fun kv => if kv.1 = k then (kv.1, v) else kv).map (·.2)) (((kvs.map fun p => keyD p.1).zip ds).map fun p => if D.eqv p.1 (keyD k) then d else p.2)
  | [], _, rs => by cases rs; exact .nil
  | p :: kvs, _, rs => by
    cases rs with
    | cons h t =>
      refine .cons ?_ (reps_repl r t)
      show Rep S H B Γ (if p.1 = k then (p.1, v) else p).2 (if D.eqv (keyD p.1) (keyD k) = true then d else _)
      rw [keyD_eqv]
      by_cases e : p.1 = k
      · simp only [e, if_true, decide_true]; exact r
      · simp only [e, if_false, decide_false, Bool.false_eq_true]; exact h
/-- a dict put on -/
theorem put_rep {k : Key} {v : V} {d : D} (r : Rep S H B Γ v d) {kvs : List (Key × V)} {ks ds : List D} (hk : kvs.map (fun p => keyD p.1) = ks) (rs : Reps S H B Γ (kvs.map (·.2)) ds) :
    (putK kvs k v).map (fun p => keyD p.1) = (dput (keyD k) d ks ds).1 ∧ Reps S H B Γ ((putK kvs k v).map (·.2)) (dput (keyD k) d ks ds).2 := by
  subst hk
  unfold putK dput
  rw [dhas_key]
  by_cases c : (kvs.any fun kv => decide (kv.1 = k)) = true
  · rw [if_pos c, if_pos c]
    refine ⟨?_, reps_repl r rs⟩
    simp only [List.map_map]
    refine List.map_congr_left fun p _ => ?_
    by_cases e : p.1 = k <;> simp [e]
  · rw [if_neg c, if_neg c]
    refine ⟨by rw [List.map_append]; rfl, ?_⟩
    rw [List.map_append]
    exact reps_app rs (.cons r .nil)
theorem merge_rep : ∀ {more : List (Key × V)} {ds : List D} {kvs : List (Key × V)} {ks es : List D}, Reps S H B Γ (more.map (·.2)) ds → kvs.map (fun p => keyD p.1) = ks → Reps S H B Γ (kvs.map (·.2)) es →
    (mergeK kvs more).map (fun p => keyD p.1) = (((more.map fun p => keyD p.1).zip ds).foldl (fun (r : List D × List D) p => dput p.1 p.2 r.1 r.2) (ks, es)).1 ∧
    Reps S H B Γ ((mergeK kvs more).map (·.2)) (((more.map fun p => keyD p.1).zip ds).foldl (fun (r : List D × List D) p => dput p.1 p.2 r.1 r.2) (ks, es)).2
  | [], _, _, _, _, _, hk, r => ⟨hk, r⟩
  | p :: more, _, kvs, ks, es, rs, hk, r => by
    rw [List.map_cons] at rs
    cases rs with
    | cons h t =>
      obtain ⟨q1, q2⟩ := put_rep (k := p.1) h hk r
      exact merge_rep (more := more) t q1 q2
theorem valV_look {kvs : List (Key × V)} (k : Key) : ∀ {ds : List D}, Reps S H B Γ (kvs.map (·.2)) ds →
    (∃ v d, valV kvs k = some v ∧ dlook (keyD k) (kvs.map fun p => keyD p.1) ds = some d ∧ Rep S H B Γ v d) ∨ (valV kvs k = none ∧ dlook (keyD k) (kvs.map fun p => keyD p.1) ds = none) := by
  induction kvs with
  | nil => intro ds r; cases r; exact .inr ⟨rfl, rfl⟩
  | cons p kvs ih =>
    intro ds r
    cases r with
    | @cons _ _ d ds h t =>
      by_cases e : p.1 = k
      · refine .inl ⟨p.2, d, valV_pos e, ?_, h⟩
        show (if D.eqv (keyD p.1) (keyD k) = true then some d else _) = _
        rw [keyD_eqv, decide_eq_true e, if_pos rfl]
      · rw [valV_neg e]
        have : dlook (keyD k) ((p :: kvs).map fun p => keyD p.1) (d :: ds) = dlook (keyD k) (kvs.map fun p => keyD p.1) ds := by
          show (if D.eqv (keyD p.1) (keyD k) = true then some d else _) = _
          rw [keyD_eqv, decide_eq_false e, if_neg Bool.false_ne_true]
        rw [this]; exact ih t
end

/-! ### dict(zip(..)) -/
theorem raw_pairs {P : Program} {w : World} : ∀ {kvs : List (Key × V)} {us us2 : List Value}, Vals (kvs.map fun p => kV p.1) us → Vals (kvs.map (·.2)) us2 →
    ∃ prs : List (Key × Value), KV kvs prs ∧ prs.length = us.length ∧ us.length = us2.length ∧ ∀ (i : Nat) (k v : Value), us[i]? = some k → us2[i]? = some v → ∃ q, prs[i]? = some (q, v) ∧ (mixKind P w).is q k = true
  | [], _, _, r, r2 => by
    rw [List.map_nil] at r r2
    cases r; cases r2
    exact ⟨[], .nil, rfl, rfl, fun i k v e => by simp at e⟩
  | p :: kvs, _, _, r, r2 => by
    rw [List.map_cons] at r r2
    cases r with
    | @cons _ u _ us h t =>
      cases r2 with
      | @cons _ u2 _ us2 h2 t2 =>
        obtain ⟨prs, q1, q2, q3, q4⟩ := raw_pairs (P := P) (w := w) t t2
        refine ⟨(p.1, u2) :: prs, .cons ⟨rfl, h2⟩ q1, by simp [q2], by simp [q3], fun i k v e1 e2 => ?_⟩
        cases i with
        | zero =>
          simp at e1 e2
          subst e1 e2
          exact ⟨p.1, rfl, kV_is h⟩
        | succ i =>
          obtain ⟨q, a, b⟩ := q4 i k v (by simpa using e1) (by simpa using e2)
          exact ⟨q, by simpa using a, b⟩
section
variable {X : Cx}
def tDZ (K : PySem.W.Frag) (ta : TA) : TE := fun σ H Q => ta σ H fun vs H1 => ∃ (c d : Src) (kvs : List (Key × V)), vs = [.ref c.ad, .ref d.ad] ∧ c.Sq K H1 (kvs.map fun p => kV p.1) ∧ d.Sq K H1 (kvs.map (·.2)) ∧
  ∀ p, H1 p = none → Q (.ref p) (upd H1 p (.dK (mergeK [] kvs)))
theorem pe_dzip {e e2 : Expr} {ta : TA} {p p2 pos pos2 : Pos} (hcalm : X.calm = true) (hg : Gl X "zip") (hm : X.mg "zip" = none) (hg2 : Gl X "dict") (hm2 : X.mg "dict" = none) (ha : PA X [e, e2] ta)
    (hs : starEach [e, e2] X.env = (false, eval e X.env) :: starEach [e2] X.env) (hpl : (backTo pos (starEach [e2] X.env)).any (·.1) = false) :
    PE X (.Call (.Name "dict" p2) [.Call (.Name "zip" p) [e, e2] [] pos] [] pos2) (tDZ X.K ta) := by
  refine ⟨fun pins s σ H Q I h => ?_⟩
  have na : starEach [Expr.Call (.Name "zip" p) [e, e2] [] pos] X.env = (false, eval (.Call (.Name "zip" p) [e, e2] [] pos) X.env) :: starEach [] X.env := rfl
  refine Call_ (ld_blt I hg2 hm2 PyProof.Rows.boot_dict (PyProof.Rows.callWith_type1 (args_cons ?_ na) na))
  refine Call_ (ld_blt I hg hm PyProof.Rows.boot_zip (PyProof.Rows.callWith_type1 (thn (ha.run pos pins s σ H _ I h) fun us s1 ⟨vs, H1, I1, r1, q1⟩ => ?_) hs hpl))
  obtain ⟨c, d, kvs, ex, hc, hd, q⟩ := q1
  subst ex
  cases r1 with
  | cons r rr =>
    cases rr with
    | cons r' rr =>
      cases rr
      cases r
      cases r'
      obtain ⟨its, rv, p1, z1, l1⟩ := Src.read I1 hc
      obtain ⟨its2, rv2, p2', _, l2⟩ := Src.read I1 hd
      refine zip_begins2 (Src.begins c its.toArray) (Src.begins d its2.toArray) p1 p2' fun h' hz hTI hTO h1 h2 hsz hk => args_nil ?_
      have I2 : L2.Inv X pins σ H1 { s1 with heap := h' } := I1.kept (t' := s1.toks) hk
      have Z : ZAt s1.heap.objs.size (s1.heap.objs.size + 4) (s1.heap.objs.size + 2) (s1.heap.objs.size + 3) s1.heap.objs.size (s1.heap.objs.size + 1) c d := ⟨rfl, rfl, rfl, rfl, rfl, l1, l2⟩
      obtain ⟨prs, k1, k2, k3, k4⟩ := raw_pairs (P := X.prog) (w := X.w) rv rv2
      have hn : min its.toArray.size its2.toArray.size = prs.length := by
        rw [List.size_toArray, List.size_toArray, ← k3, Nat.min_self, k2]
      have hkl : kvs.length = prs.length := k1.length
      have hle : kvs.length ≤ sizeLine := by simpa using z1
      refine call_dict_pairs (knd := mixKind X.prog X.w) (kvs := prs) (pairArg_zipS Z its.toArray its2.toArray) (I2.ok.hd hcalm)
        ⟨hz, hTI, ⟨_, _, hTO⟩, ⟨c.first h1, p1.at_ fun o e => hk _ _ e⟩, d.first h2, p2'.at_ fun o e => hk _ _ e⟩
        ⟨hn.symm, fun i k v ⟨e1, e2⟩ => k4 i k v (by simpa using e1) (by simpa using e2)⟩ (by rw [hn, ← hkl]; exact hle) fun h'' tk hd' hk' => ?_
      have hm' : (h'.objs.size == sysModules) = false := beq_eq_false_iff_ne.mpr (Nat.ne_of_gt I2.big)
      have hlen : (mergeK [] kvs).length ≤ sizeLine := Nat.le_trans (length_mergeK kvs []) (by rw [List.length_nil, Nat.zero_add]; exact hle)
      have new : ObjOk X.prog X.w (upd H1 h'.objs.size (.dK (mergeK [] kvs))) h'' h'.objs.size (.dK (mergeK [] kvs)) := ⟨hlen, hm', merged [] prs, KV.merge k1 .nil, hd'⟩
      refine ⟨.ref h'.objs.size, _, I2.turnedNew (t' := tk) (ch := [s1.heap.objs.size + 4, s1.heap.objs.size + 2, s1.heap.objs.size + 3, s1.heap.objs.size, s1.heap.objs.size + 1]) (fun b o hb e => hk' b o (fun hm => hb (by
        simp only [List.mem_cons, List.not_mem_nil, or_false] at hm ⊢
        rcases hm with x | x | x | x <;> simp [x])) e) (fun b hb => ?_) (Nat.le_refl _) new, rfl, q _ (I2.hok.fresh (Nat.le_refl _))⟩
      have e' : b = s1.heap.objs.size + 4 ∨ b = s1.heap.objs.size + 2 ∨ b = s1.heap.objs.size + 3 ∨ b = s1.heap.objs.size ∨ b = s1.heap.objs.size + 1 := by simpa using hb
      have hle : s1.heap.objs.size ≤ b := by
        rcases e' with z | z | z | z | z
        · rw [z]; exact Nat.le_add_right _ _
        · rw [z]; exact Nat.le_add_right _ _
        · rw [z]; exact Nat.le_add_right _ _
        · rw [z]; exact Nat.le_refl _
        · rw [z]; exact Nat.le_add_right _ _
      exact I1.fpOk hle (I1.hok.fresh hle)
end
section
variable {S : Inf} {H0 : Hp} {W : WX} {X : Cx} {C : Nat → List D → Gs → R D}
theorem new_dic {H : Hp} {B : Bad} {Γ : List Addr} {p : Addr} {kvs : List (Key × V)} {ks ds : List D} (ok : BadOk H B Γ) (h : H p = none) (hk : kvs.map (fun p => keyD p.1) = ks) (r : Reps S H B Γ (kvs.map (·.2)) ds) :
    Rep S (upd H p (.dK kvs)) B Γ (.ref p) (.dic ks ds) ∧ FreshAt S H (upd H p (.dK kvs)) B Γ (.ref p) (.dic ks ds) :=
  ⟨.dic upd_same (not_bad_new ok h) hk (r.step ok (Same.step (same_laid h))), p, kvs, rfl, h, not_bad_new ok h, upd_same, hk, Reps.more' h r⟩
theorem zip_kvs : ∀ {ks : List Key} {us : List V}, ks.length = us.length → ∃ kvs : List (Key × V), kvs.map (fun p => p.1) = ks ∧ kvs.map (·.2) = us
  | [], [], _ => ⟨[], rfl, rfl⟩
  | [], _ :: _, h => by simp at h
  | _ :: _, [], h => by simp at h
  | k :: ks, u :: us, h => by
    obtain ⟨kvs, e1, e2⟩ := zip_kvs (ks := ks) (us := us) (by simpa using h)
    exact ⟨(k, u) :: kvs, by simp [e1], by simp [e2]⟩
theorem eok_dzip (hK : X.K = S.K) (hcalm : X.calm = true) {e e2 : Ex} {pe pe2 : Expr} {p p2 pos pos2 : Pos} (hg : Gl X "zip") (hm : X.mg "zip" = none) (hg2 : Gl X "dict") (hm2 : X.mg "dict" = none) (h : PA X [pe, pe2] (tDs S H0 W C [e, e2]))
    (hs : starEach [pe, pe2] X.env = (false, eval pe X.env) :: starEach [pe2] X.env) (hpl : (backTo pos (starEach [pe2] X.env)).any (·.1) = false) :
    PE X (.Call (.Name "dict" p2) [.Call (.Name "zip" p) [pe, pe2] [] pos] [] pos2) (tD S H0 W C (.bi .dzip [e, e2])) := by
  refine (pe_dzip hcalm hg hm hg2 hm2 h hs hpl).imp fun σ H Q ⟨env, g, B, Γ, sl, ce, hh⟩ => ?_
  refine tDs_bindL sl ce hh fun ds g1 H1 B1 Γ1 vs hlen sl1 ce1 s1 r1 h1 => ?_
  obtain ⟨d, ee, h3⟩ := h1.of
  match ds, hlen, r1, ee with
  | [d1, d2], _, r1, ee =>
    obtain ⟨v1, v2, rfl, q1, q2⟩ := reps2 r1
    have ee : (match seqOf d1, seqOf d2 with
      | some a, some b => if a.all keyOk && a.length == b.length then
          let r := (a.zip b).foldl (fun (r : List D × List D) p => dput p.1 p.2 r.1 r.2) ([], [])
          some (D.dic r.1 r.2)
        else none
      | _, _ => none) = some d := ee
    cases e1 : seqOf d1 with
    | none => rw [e1] at ee; cases ee
    | some a =>
      cases e2 : seqOf d2 with
      | none => rw [e1, e2] at ee; cases ee
      | some b =>
        rw [e1, e2] at ee
        obtain ⟨hl, he⟩ := ite_some ee
        rw [Bool.and_eq_true] at hl
        obtain ⟨c, ev, us, rs, hs'⟩ := src_of ce1.ok q1 e1
        obtain ⟨c2, ev2, us2, rs2, hs2⟩ := src_of ce1.ok q2 e2
        obtain ⟨ks, k1, k2⟩ := keys_of_reps rs hl.1
        have hlen : a.length = b.length := by simpa using hl.2
        have l1 := rs.length
        have l2 := rs2.length
        have l3 : ks.length = us2.length := by
          have := congrArg List.length k2
          rw [List.length_map] at this
          omega
        obtain ⟨kvs, f1, f2⟩ := zip_kvs l3
        have f3 : (kvs.map fun p => kV p.1) = us := by rw [k1, ← f1, List.map_map]; rfl
        have f4 : (kvs.map fun p => keyD p.1) = a := by rw [k2, ← f1, List.map_map]; rfl
        rw [hK]
        refine ⟨c, c2, kvs, by rw [ev, ev2], by rw [f3]; exact hs' _ _ _ .refl, by rw [f2]; exact hs2 _ _ _ .refl, fun q hq => ?_⟩
        have rs2' : Reps S H1 B1 Γ1 (kvs.map (·.2)) b := by rw [f2]; exact rs2
        obtain ⟨m1, m2⟩ := merge_rep (kvs := []) (ks := []) (es := []) rs2' rfl .nil
        rw [f4] at m1 m2
        obtain ⟨x1, x2⟩ := new_dic ce1.ok hq m1 m2
        subst he
        exact h3 _ B1 Γ1 (ce1.same (same_laid hq)) (Same.step (same_laid hq)) _ x1 fun _ => s1.seqF x2
/-! ### d.get(k, x) -/
theorem eok_get (hu : X.A.units + 1 < cLine) {o e f : Ex} {po pe pf : Expr} {apos cpos : Pos} (ho : PE X po (tD S H0 W C o)) (he : PE X pe (tD S H0 W C e)) (hf : PE X pf (tD S H0 W C f)) (m : M2 X po "get" apos pe pf cpos) :
    PE X (.Call (.Attribute po "get" apos) [pe, pf] [] cpos) (tD S H0 W C (.meth .get o [e, f])) := by
  refine (pe_dget2 hu ho he hf m).imp fun σ H Q ⟨env, g, B, Γ, sl, ce, hh⟩ => ?_
  have hh : Out S σ W H B Γ ((evE C o env g).bind fun x g => if mtyp .get x then (evEs C [e, f] env g).bind fun ds g => .of (bi .get (x :: ds)) g else .no) _ := hh
  refine tD_bind sl ce hh fun d g1 H1 B1 Γ1 v sl1 ce1 s1 r1 _ h1 => ?_
  cases hm : mtyp .get d with
  | false => rw [hm] at h1; exact h1.elim
  | true =>
    rw [hm] at h1
    cases r1 with
    | @dic a kvs ks ws hx nb hk rs =>
      refine ⟨a, rfl, .inl ⟨kvs, .inl hx⟩, ?_⟩
      have h1 : Out S σ W H1 B1 Γ1 (((evE C e env g1).bind fun d g => ((evE C f env g).bind fun d2 g => R.ok [d2] g).bind fun ds g => .ok (d :: ds) g).bind fun ds g => .of (bi .get (D.dic ks ws :: ds)) g) _ := h1
      have eqR : (((evE C e env g1).bind fun d g => ((evE C f env g).bind fun d2 g => R.ok [d2] g).bind fun ds g => .ok (d :: ds) g).bind fun ds g => R.of (bi .get (D.dic ks ws :: ds)) g) = (evE C e env g1).bind fun d1 g => (evE C f env g).bind fun d2 g => R.of (bi .get [D.dic ks ws, d1, d2]) g := by
        cases evE C e env g1 with
        | ok d1 g2 =>
          show (((((evE C f env g2).bind fun d2 g => R.ok [d2] g).bind fun ds g => .ok (d1 :: ds) g)).bind fun ds g => R.of (bi .get (D.dic ks ws :: ds)) g) = ((evE C f env g2).bind fun d2 g => R.of (bi .get [D.dic ks ws, d1, d2]) g)
          cases evE C f env g2 <;> rfl
        | exc c p g2 => rfl
        | no => rfl
      rw [eqR] at h1
      refine tD_bind sl1 ce1 h1 fun d1 g2 H2 B2 Γ2 v1 sl2 ce2 s2 r2 _ h2 => ?_
      refine tD_bind sl2 ce2 h2 fun d2 g3 H3 B3 Γ3 v2 sl3 ce3 s3 r3 _ h3 => ?_
      obtain ⟨r, er, h4⟩ := h3.of
      have er : (if keyOk d1 then some ((dlook d1 ks ws).getD d2) else none) = some r := er
      obtain ⟨k1, k2⟩ := ite_some er
      subst k2
      have rd : Rep S H1 B1 Γ1 (.ref a) (.dic ks ws) := .dic hx nb hk rs
      have rd3 := (rd.step ce1.ok s2).step ce2.ok s3
      cases rd3 with
      | @dic _ kvs3 _ _ hx3 nb3 hk3 rs3 =>
        obtain ⟨k, ek, ed⟩ := key_of_rep r2 k1
        subst ek ed
        subst hk3
        refine ⟨valV kvs3 k, DGet.k hx3, ?_⟩
        refine h4 H3 B3 Γ3 ce3 .refl _ ?_ fun z => nomatch z
        rcases valV_look k rs3 with ⟨v, d, e1, e2, e3⟩ | ⟨e1, e2⟩
        · rw [e1, e2]; exact e3
        · rw [e1, e2]; exact r3
    | _ => cases hm
end
end Rz

/-! RzZ3 -/
set_option Elab.async false
set_option linter.all false
set_option maxRecDepth 100000
set_option maxHeartbeats 4000000
namespace Rz
open PySem PySem.Spec PyProof.Rows L2
/-! ### in, not in -/
section
variable {X : Cx}
theorem OpR.or {f : Value → Value → Sem Value} {r1 r2 : R2} (h1 : OpR X f r1) (h2 : OpR X f r2) : OpR X f (fun x y H Q => r1 x y H Q ∨ r2 x y H Q) := by
  intro pins s σ H x y v u Q I rx ry h
  rcases h with h | h
  · exact h1 pins s σ H x y v u Q I rx ry h
  · exact h2 pins s σ H x y v u Q I rx ry h
def rDIn : R2 := fun x y H Q => ∃ a o, y = .ref a ∧ DGet H a x o ∧ Q (.bl o.isSome) H
def rDNotIn : R2 := fun x y H Q => ∃ a o, y = .ref a ∧ DGet H a x o ∧ Q (.bl (!o.isSome)) H
theorem op_inDic (hu : X.A.units + 1 < cLine) : OpR X (compareOp .In) rDIn := by
  intro pins s σ H x y v u Q I rx ry h
  obtain ⟨a, o, rfl, g, q⟩ := h
  cases (show u = Value.ref a from ry)
  exact d_in hu I g rx fun s' I' => ⟨.bl o.isSome, H, I', rfl, q⟩
theorem op_notInDic (hu : X.A.units + 1 < cLine) : OpR X (compareOp .NotIn) rDNotIn := by
  intro pins s σ H x y v u Q I rx ry h
  obtain ⟨a, o, rfl, g, q⟩ := h
  cases (show u = Value.ref a from ry)
  exact d_notIn hu I g rx fun s' I' => ⟨.bl (!o.isSome), H, I', rfl, q⟩
def rInE (K : PySem.W.Frag) : R2 := fun x y H Q => ∃ d ds, Dp K H x d ∧ Dp K H y (.list ds) ∧ d.depth ≤ 60 ∧ SeqAt.shaped d = true ∧ SeqAt.shaped (.list ds) = true ∧ Q (.bl (ds.any fun z => PyData.eqv z d)) H
def rNotInE (K : PySem.W.Frag) : R2 := fun x y H Q => ∃ d ds, Dp K H x d ∧ Dp K H y (.list ds) ∧ d.depth ≤ 60 ∧ SeqAt.shaped d = true ∧ SeqAt.shaped (.list ds) = true ∧ Q (.bl (!ds.any fun z => PyData.eqv z d)) H
theorem op_inE (hu : X.A.units + 64 < cLine) : OpR X (compareOp .In) (rInE X.K) := by
  intro pins s σ H x y v u Q I rx ry h
  obtain ⟨d, ds, hd, he, dp, sd, se, q⟩ := h
  obtain ⟨as, r1⟩ := Dp.reads I d x v hd rx
  obtain ⟨bs, r2⟩ := Dp.reads I (.list ds) y u he ry
  exact SeqAt.in_list_reads r2 r1 (SeqAt.canLay_of_shaped se) (SeqAt.canLay_of_shaped sd) (by omega) ⟨.bl _, H, I, rfl, q⟩
theorem op_notInE (hu : X.A.units + 64 < cLine) : OpR X (compareOp .NotIn) (rNotInE X.K) := by
  intro pins s σ H x y v u Q I rx ry h
  obtain ⟨d, ds, hd, he, dp, sd, se, q⟩ := h
  obtain ⟨as, r1⟩ := Dp.reads I d x v hd rx
  obtain ⟨bs, r2⟩ := Dp.reads I (.list ds) y u he ry
  exact SeqAt.notIn_list_reads r2 r1 (SeqAt.canLay_of_shaped se) (SeqAt.canLay_of_shaped sd) (by omega) ⟨.bl _, H, I, rfl, q⟩
def rInR (K : PySem.W.Frag) : R2 := fun x y H Q => rIn K false x y H Q ∨ (rInE K x y H Q ∨ rDIn x y H Q)
def rNotInR (K : PySem.W.Frag) : R2 := fun x y H Q => rIn K true x y H Q ∨ (rNotInE K x y H Q ∨ rDNotIn x y H Q)
theorem op_inR (hu : X.A.units + 64 < cLine) : OpR X (compareOp .In) (rInR X.K) := OpR.or op_in_seq (OpR.or (op_inE hu) (op_inDic (by omega)))
theorem op_notInR (hu : X.A.units + 64 < cLine) : OpR X (compareOp .NotIn) (rNotInR X.K) := OpR.or op_notIn_seq (OpR.or (op_notInE hu) (op_notInDic (by omega)))
end
section
variable {S : Inf} {H : Hp} {B : Bad} {Γ : List Addr}
theorem flat_rep {v : V} {d : D} (r : Rep S H B Γ v d) (h : flatD d = true) : flatV v = true := by
  cases r <;> first | rfl | cases h
theorem flat_eqv {v1 v2 : V} {d1 d2 : D} (r1 : Rep S H B Γ v1 d1) (r2 : Rep S H B Γ v2 d2) (h1 : flatD d1 = true) (h2 : flatD d2 = true) : eqV v1 v2 = D.eqv d1 d2 := by
  cases r1 <;> cases r2 <;> first | rfl | cases h1 | cases h2 | skip
  rename_i a b
  show (sOf a == sOf b) = (a == b)
  by_cases e : a = b
  · subst e; simp
  · have : ¬ sOf a = sOf b := fun z => e (by rw [← cps_sOf a, z, cps_sOf])
    rw [beq_false_of_ne e, beq_false_of_ne this]
theorem flat_reps : ∀ {vs : List V} {ds : List D}, Reps S H B Γ vs ds → ds.all flatD = true → vs.all flatV = true
  | _, _, .nil, _ => rfl
  | _, _, .cons r t, h => by
    rw [List.all_cons, Bool.and_eq_true] at h
    rw [List.all_cons, flat_rep r h.1, flat_reps t h.2]; rfl
theorem any_reps {v : V} {d : D} (r : Rep S H B Γ v d) (hd : flatD d = true) : ∀ {vs : List V} {ds : List D}, Reps S H B Γ vs ds → ds.all flatD = true → inV v vs = anyEq ds d
  | _, _, .nil, _ => rfl
  | _, _, .cons q t, h => by
    rw [List.all_cons, Bool.and_eq_true] at h
    have ih := any_reps r hd t h.2
    show (eqV _ v || inV v _) = (D.eqv _ d || anyEq _ d)
    rw [flat_eqv q r h.1 hd, ih]
theorem shps_mem : ∀ (n : Nat) (ds : List D), D.shps n ds = true → ∀ d ∈ ds, D.shp n d = true
  | n, [], _, d, h => (List.not_mem_nil h).elim
  | n, e :: ds, hs, d, h => by
    have hs : (D.shp n e && D.shps n ds) = true := by cases n <;> exact hs
    rw [Bool.and_eq_true] at hs
    rcases List.mem_cons.mp h with rfl | h
    · exact hs.1
    · exact shps_mem n ds hs.2 d h
mutual
theorem shp_up : ∀ {n : Nat} {d : D}, D.shp n d = true → D.shp (n + 1) d = true
  | n, .non, _ => rfl
  | n, .bl _, _ => rfl
  | n, .int _, _ => rfl
  | n, .str s, h => by cases n <;> exact h
  | 0, .tup _, h => by cases h
  | 0, .lst _, h => by cases h
  | n + 1, .tup ds, h => shps_up (n := n) (ds := ds) h
  | n + 1, .lst ds, h => shps_up (n := n) (ds := ds) h
  | n, .dic _ _, h => by cases n <;> cases h
  | n, .fn _, h => by cases n <;> cases h
  | n, .mref _, h => by cases n <;> cases h
  | n, .scr _, h => by cases n <;> cases h
theorem shps_up : ∀ {n : Nat} {ds : List D}, D.shps n ds = true → D.shps (n + 1) ds = true
  | n, [], _ => rfl
  | n, d :: ds, h => by
    have h : (D.shp n d && D.shps n ds) = true := by cases n <;> exact h
    rw [Bool.and_eq_true] at h
    show (D.shp (n + 1) d && D.shps (n + 1) ds) = true
    rw [shp_up h.1, shps_up h.2]; rfl
end
theorem any_toPD {x : D} (hx : D.shp 60 x = true) : ∀ {ds : List D}, (∀ d ∈ ds, D.shp 59 d = true ∨ D.shp 60 d = true) → (toPDs ds).any (fun z => PyData.eqv z (toPD x)) = anyEq ds x
  | [], _ => rfl
  | d :: ds, h => by
    have hd : D.shp 60 d = true := (h d (List.mem_cons_self ..)).elim (fun z => shp_up z) id
    show (PyData.eqv (toPD d) (toPD x) || (toPDs ds).any fun z => PyData.eqv z (toPD x)) = (D.eqv d x || anyEq ds x)
    rw [toPD_eqv 60 d x hd hx, any_toPD hx fun e he => h e (List.mem_cons_of_mem _ he)]
theorem dic_get {a : Addr} {v : V} {x : D} {kvs : List (Key × V)} {ks : List D} (r : Rep S H B Γ v x) (hx : keyOk x = true) (h : H a = some (.dK kvs)) (hk : kvs.map (fun p => keyD p.1) = ks) : ∃ o, DGet H a v o ∧ o.isSome = dhas x ks := by
  obtain ⟨k, rfl, rfl⟩ := key_of_rep r hx
  subst hk
  refine ⟨_, DGet.k h, ?_⟩
  rw [dhas_key]
  unfold valV
  rw [Option.isSome_map]
  refine Bool.eq_iff_iff.mpr ?_
  rw [List.find?_isSome, List.any_eq_true]
theorem ro_in : RO S (rInR S.K) (op2 .isin) := by
  intro H B Γ v1 v2 d1 d2 d Q ok r1 r2 e k
  cases r2 with
  | @tup a vs ds sq rs =>
    obtain ⟨hm, rfl⟩ := ite_some e
    rw [Bool.and_eq_true] at hm
    refine .inl ⟨a, vs, rfl, .inr sq, flat_rep r1 hm.1, flat_reps rs hm.2, ?_⟩
    rw [if_neg Bool.false_ne_true, any_reps r1 hm.1 rs hm.2]
    exact k _ H (L2.Same.refl H) (.bl _) trivial
  | @lst a vs ds ha nb rs =>
    obtain ⟨hm, rfl⟩ := ite_some e
    obtain ⟨s1, s2⟩ := shp2_ok hm
    refine .inr (.inl ⟨toPD d1, toPDs ds, r1.dp 60 s1, (Rep.lst ha nb rs).dp 60 s2, (toPD_depth 60 d1 s1).1, toPD_shaped s1, toPD_shaped s2, ?_⟩)
    rw [any_toPD s1 fun d hd => .inl (shps_mem 59 ds s2 d hd)]
    exact k _ H (L2.Same.refl H) (.bl _) trivial
  | @dic a kvs ks ws ha nb hk rs =>
    obtain ⟨hm, rfl⟩ := ite_some e
    obtain ⟨o, g, ho⟩ := dic_get r1 hm ha hk
    refine .inr (.inr ⟨a, o, rfl, g, ?_⟩)
    rw [ho]
    exact k _ H (L2.Same.refl H) (.bl _) trivial
  | _ => cases e
theorem ro_notin : RO S (rNotInR S.K) (op2 .notin) := by
  intro H B Γ v1 v2 d1 d2 d Q ok r1 r2 e k
  cases r2 with
  | @tup a vs ds sq rs =>
    obtain ⟨hm, rfl⟩ := ite_some e
    rw [Bool.and_eq_true] at hm
    refine .inl ⟨a, vs, rfl, .inr sq, flat_rep r1 hm.1, flat_reps rs hm.2, ?_⟩
    rw [if_pos rfl, any_reps r1 hm.1 rs hm.2]
    exact k _ H (L2.Same.refl H) (.bl _) trivial
  | @lst a vs ds ha nb rs =>
    obtain ⟨hm, rfl⟩ := ite_some e
    obtain ⟨s1, s2⟩ := shp2_ok hm
    refine .inr (.inl ⟨toPD d1, toPDs ds, r1.dp 60 s1, (Rep.lst ha nb rs).dp 60 s2, (toPD_depth 60 d1 s1).1, toPD_shaped s1, toPD_shaped s2, ?_⟩)
    rw [any_toPD s1 fun d hd => .inl (shps_mem 59 ds s2 d hd)]
    exact k _ H (L2.Same.refl H) (.bl _) trivial
  | @dic a kvs ks ws ha nb hk rs =>
    obtain ⟨hm, rfl⟩ := ite_some e
    obtain ⟨o, g, ho⟩ := dic_get r1 hm ha hk
    refine .inr (.inr ⟨a, o, rfl, g, ?_⟩)
    rw [ho]
    exact k _ H (L2.Same.refl H) (.bl _) trivial
  | _ => cases e
end
/-! ### by index, by key -/
section
variable {S : Inf} {H0 : Hp} {W : WX} {C : Nat → List D → Gs → R D} {X : Cx}
def rIxDic : R2 := fun x y H Q => ∃ a v, x = .ref a ∧ DGet H a y (some v) ∧ Q v H
theorem ix_dic (hu : X.A.units + 1 < cLine) : IxR X rIxDic := by
  intro value slice pins s σ H x y v u Q I rx ry h hs
  obtain ⟨a, w, rfl, g, q⟩ := h
  obtain rfl : v = Value.ref a := rx
  have hT := dict_typeIs I g
  unfold subscriptTail
  refine wpAny_bind ?_
  rw [getitemInPython_of_ne hT.not_modules]
  refine wpAny_bind (wpAny_specialOf hT PySem.F.slot_dict_getitem.lookup ?_)
  have fin : wpAny (model X.prog X.w) X.A (subscripted slice false (.ref a) u) (fun r s₃ => wpAny (model X.prog X.w) X.A (letTemporaryGo value (.ref a) r >>= fun _ => pure r) (EP X pins σ Q) X.xe s₃) X.xe s := by
    rw [hs]
    exact wpAny_operating (wpAny_mono (d_getItem (Q := EP X pins σ Q) hu I g ry fun w' s' I' rw' => ⟨w, H, I', rw', q⟩) (fun r s₃ h₃ => wpAny_bind (wpAny_letTemporaryGo (wpAny_pure h₃))) fun _ _ x => x)
  first
    | exact wpAny_pure (wpAny_bind fin)
    | exact wpAny_bind (wpAny_pure (wpAny_bind fin))
    | exact wpAny_bind fin
/-- a[i] of a list, a tuple, a text, a cell -/
theorem eok_ix (hK : X.K = S.K) (hu : X.A.units + 1 < cLine) {ea ei : Ex} {a b : Expr} {pos : Pos} (ha : PE X a (tD S H0 W C ea)) (hb : PE X b (tD S H0 W C ei)) (hs : PlainIx b) : PE X (.Subscript a b pos) (tD S H0 W C (.ix ea ei)) := by
  refine (pe_ix (IxR.or ix_seq (ix_dic hu)) ha hb hs).imp fun σ H Q ⟨env, g, B, Γ, sl, ce, h⟩ => ?_
  refine tD_bind sl ce h fun d1 g1 H1 B1 Γ1 v1 sl1 ce1 s1 r1 _ h1 => ?_
  refine tD_bind sl1 ce1 h1 fun d2 g2 H2 B2 Γ2 v2 sl2 ce2 s2 r2 _ h2 => ?_
  obtain ⟨d, e, h3⟩ := h2.of
  have r1' := r1.step ce1.ok s2
  have fin : ∀ v, Rep S H2 B2 Γ2 v d → Q v H2 := fun v r => h3 H2 B2 Γ2 ce2 .refl v r fun z => nomatch z
  rw [hK]
  cases r2 with
  | int k =>
    cases r1' with
    | tup hx q1 =>
      have e : atI _ k = some d := e
      obtain ⟨v, ev, rv⟩ := reps_atI q1 e
      exact .inl (.inr (.inl ⟨_, _, k, v, rfl, rfl, hx, ev, fin v rv⟩))
    | lst hx nb q1 =>
      have e : atI _ k = some d := e
      obtain ⟨v, ev, rv⟩ := reps_atI q1 e
      exact .inl (.inl ⟨_, _, k, v, rfl, rfl, SqL.of hx, ev, fin v rv⟩)
    | scr hx q1 =>
      have e : atI _ k = some d := e
      obtain ⟨v, ev, rv⟩ := reps_atI q1 e
      exact .inl (.inl ⟨_, _, k, v, rfl, rfl, hx.seq, ev, fin v rv⟩)
    | @mref n a hx =>
      have e : (match g2[n]? with | some ds => atI ds k | none => none) = some d := e
      cases eg : g2[n]? with
      | none => rw [eg] at e; cases e
      | some ds =>
        rw [eg] at e
        obtain ⟨a', vs, ea, eh, q1⟩ := ce2.at_ n ds eg
        rw [hx] at ea
        cases ea
        obtain ⟨v, ev, rv⟩ := reps_atI q1 e
        exact .inl (.inl ⟨_, _, k, v, rfl, rfl, SqL.of eh, ev, fin v rv⟩)
    | dic hx nb hk q1 =>
      have e : dlook (.int k) _ _ = some d := e
      subst hk
      rcases valV_look (.inl k) q1 with ⟨v, d', e1, e2, rv⟩ | ⟨_, e2⟩
      · have e2 : dlook (.int k) _ _ = some d' := e2
        rw [e] at e2; injection e2 with e2; subst e2
        refine .inr ⟨_, v, rfl, ?_, fin v rv⟩
        have := DGet.k (k := .inl k) hx
        rw [e1] at this; exact this
      · have e2 : dlook (.int k) _ _ = none := e2
        rw [e] at e2; cases e2
    | str l =>
      have e : (if Nat.ble l.length lineN = true then (atI l k).map fun c => D.str [c] else none) = some d := e
      by_cases hl : Nat.ble l.length lineN = true
      · rw [if_pos hl] at e
        cases ea : atI l k with
        | none => rw [ea] at e; cases e
        | some c =>
          rw [ea] at e
          have e : D.str [c] = d := Option.some.inj e
          subst e
          refine .inl (.inr (.inr ⟨_, k, c, rfl, rfl, ?_, ?_, fin _ (.str [c])⟩))
          · rw [sOf_len]; exact Nat.le_trans (Nat.le_of_ble_eq_true hl) lineN_le
          · rw [sOf_list]; exact ea
      · rw [if_neg hl] at e; cases e
    | _ => cases e
  | str l =>
    cases r1' with
    | dic hx nb hk q1 =>
      have e : dlook (.str l) _ _ = some d := e
      subst hk
      have kl : keyD (.inr (sOf l)) = .str l := by show D.str _ = _; rw [cps_sOf]
      rcases valV_look (.inr (sOf l)) q1 with ⟨v, d', e1, e2, rv⟩ | ⟨_, e2⟩
      · rw [kl, e] at e2; injection e2 with e2; subst e2
        refine .inr ⟨_, v, rfl, ?_, fin v rv⟩
        have := DGet.k (k := .inr (sOf l)) hx
        rw [e1] at this; exact this
      · rw [kl, e] at e2; cases e2
    | _ => cases e
  | _ => cases r1' <;> cases e


/-- a[::-1] of a list -/
theorem eok_sl_rev (hK : X.K = S.K) {ea : Ex} {a : Expr} {k : Nat} {p1 p2 p3 pos : Pos} (ha : PE X a (tD S H0 W C ea)) : PE X (.Subscript a (.Slice none none (some (.UnaryOp .USub (.Constant (.int 1) k p1) p2)) p3) pos) (tD S H0 W C (.sl .rev ea [])) := by
  refine (pe_revL ha).imp fun σ H Q ⟨env, g, B, Γ, sl, ce, h⟩ => ?_
  refine tD_bind sl ce h fun d1 g1 H1 B1 Γ1 v1 sl1 ce1 s1 r1 _ h1 => ?_
  have h2 : Out S σ W H1 B1 Γ1 (R.of (slD .rev d1 []) g1) _ := h1
  obtain ⟨d, e, h3⟩ := h2.of
  cases r1 with
  | lst hx nb q1 =>
    have e : some (D.lst _) = some d := e
    injection e with e; subst e
    rw [hK]
    refine ⟨_, _, rfl, SqL.of hx, fun p hp => ?_⟩
    obtain ⟨x1, x2⟩ := new_lst ce1.ok hp q1.reverse
    exact h3 _ B1 Γ1 (ce1.same (same_laid hp)) (Same.step (same_laid hp)) _ x1 fun _ => s1.seqF x2
  | _ => cases e
def vRev : Expr → Bool
  | .Slice none none (some (.UnaryOp .USub (.Constant (.int i) _ _) _)) _ => decide (i = 1)
  | _ => false
theorem vRev_ok {e : Expr} (h : vRev e = true) : ∃ k p1 p2 p3, e = .Slice none none (some (.UnaryOp .USub (.Constant (.int 1) k p1) p2)) p3 := by
  unfold vRev at h
  split at h
  · rename_i i k p1 p2 p3
    have := of_decide_eq_true h
    subst this
    exact ⟨_, _, _, _, rfl⟩
  · cases h
end
/-! ### comparisons -/
def cmpOf : Op → Option CmpOp
  | .eq => some .Eq
  | .ne => some .NotEq
  | .lt => some .Lt
  | .le => some .LtE
  | .gt => some .Gt
  | .ge => some .GtE
  | .is_ => some .Is
  | .isnt => some .IsNot
  | .isin => some .In
  | .notin => some .NotIn
  | _ => none
theorem cmp_ok {S : Inf} {X : Cx} {n : Nat} (i : In S X) (hr : Room n X.A) {o : Op} {p : CmpOp} (h : cmpOf o = some p) : ∃ r, OpR X (compareOp p) r ∧ RO S r (op2 o) := by
  cases o with
  | eq => cases h; exact ⟨_, op_eqD hr.units, by rw [i.K]; exact ro_eq⟩
  | ne => cases h; exact ⟨_, op_neD hr.units, by rw [i.K]; exact ro_ne⟩
  | lt => cases h; exact ⟨_, op_lt, ro_lt⟩
  | le => cases h; exact ⟨_, op_le, ro_le⟩
  | gt => cases h; exact ⟨_, op_gt, ro_gt⟩
  | ge => cases h; exact ⟨_, op_ge, ro_ge⟩
  | is_ => cases h; exact ⟨_, op_isN, ro_is⟩
  | isnt => cases h; exact ⟨_, op_notN, ro_isnt⟩
  | isin => cases h; exact ⟨_, op_inR hr.units, by rw [i.K]; exact ro_in⟩
  | notin => cases h; exact ⟨_, op_notInR hr.units, by rw [i.K]; exact ro_notin⟩
  | _ => cases h
theorem cmp_notF {T : Nat → Option Fn} {o : Op} {p : CmpOp} {a b : Ex} (h : cmpOf o = some p) : isF T (.op o a b) = false := by
  cases o <;> first | rfl | cases h
end Rz

/-! RzZ4 -/
set_option Elab.async false
set_option linter.all false
set_option maxRecDepth 100000
set_option maxHeartbeats 4000000
namespace Rz
open PySem PySem.Spec PyProof.Rows L2
/-! ### {k: v, ..} -/
def flatP : List (Ex × Ex) → List Ex
  | [] => []
  | p :: r => p.1 :: p.2 :: flatP r
def flatW : List (V × V) → List V
  | [] => []
  | p :: r => p.1 :: p.2 :: flatW r
theorem bind_assoc {α β γ : Type} (x : R α) (f : α → Gs → R β) (h : β → Gs → R γ) : (x.bind f).bind h = x.bind fun a g => (f a g).bind h := by cases x <;> rfl
section
variable {S : Inf} {H0 : Hp} {W : WX} {C : Nat → List D → Gs → R D} {X : Cx}
theorem pairs_run : ∀ (prs : List (Ex × Ex)) {σ : L2.St} {H : Hp} {env : Env} {g : Gs} {B : Bad} {Γ : List Addr} {P : List D → Gs → Hp → Bad → List Addr → Prop} {K : List (V × V) → Hp → Prop},
    Slots S H B Γ H0 σ env → Cells S H g B Γ → Out S σ W H B Γ (evEs C (flatP prs) env g) P →
    (∀ ds g1 H1 B1 Γ1 ps, Cells S H1 g1 B1 Γ1 → Step H B Γ H1 B1 Γ1 → Reps S H1 B1 Γ1 (flatW ps) ds → P ds g1 H1 B1 Γ1 → K ps H1) →
    tPairs (prs.map fun p => (tD S H0 W C p.1, tD S H0 W C p.2)) σ H K
  | [], σ, H, env, g, B, Γ, P, K, sl, ce, h, k => k [] g H B Γ [] ce .refl .nil (h H B Γ ce .refl)
  | (a, b) :: r, σ, H, env, g, B, Γ, P, K, sl, ce, h, k => by
    show tD S H0 W C a σ H fun x H1 => tD S H0 W C b σ H1 fun y H2 => tPairs _ σ H2 fun ps H3 => K ((x, y) :: ps) H3
    have h : Out S σ W H B Γ ((evE C a env g).bind fun d1 g1 => ((evE C b env g1).bind fun d2 g2 => (evEs C (flatP r) env g2).bind fun ds g3 => R.ok (d2 :: ds) g3).bind fun ds g => R.ok (d1 :: ds) g) P := h
    refine tD_bind sl ce h fun d1 g1 H1 B1 Γ1 v1 sl1 ce1 s1 r1 _ h1 => ?_
    rw [bind_assoc] at h1
    refine tD_bind sl1 ce1 h1 fun d2 g2 H2 B2 Γ2 v2 sl2 ce2 s2 r2 _ h2 => ?_
    rw [bind_assoc] at h2
    refine pairs_run r sl2 ce2 h2.bind fun ds g3 H3 B3 Γ3 ps ce3 s3 rs h3 => ?_
    have h3 : Out S σ W H3 B3 Γ3 (R.ok (d1 :: d2 :: ds) g3) P := h3
    exact k (d1 :: d2 :: ds) g3 H3 B3 Γ3 ((v1, v2) :: ps) ce3 (s1.trans (s2.trans s3)) (.cons (r1.step ce1.ok (s2.trans s3)) (.cons (r2.step ce2.ok s3) rs)) (h3 H3 B3 Γ3 ce3 .refl)
theorem pairs_kv {H : Hp} {B : Bad} {Γ : List Addr} : ∀ {ps : List (V × V)} {ds : List D}, Reps S H B Γ (flatW ps) ds → (dsplit ds).1.all keyOk = true →
    ∃ kvs : List (Key × V), ps = kvs.map (fun kv => (kV kv.1, kv.2)) ∧ (dsplit ds).1 = kvs.map (fun p => keyD p.1) ∧ Reps S H B Γ (kvs.map (·.2)) (dsplit ds).2
  | [], ds, r, _ => by
    cases r
    exact ⟨[], rfl, rfl, .nil⟩
  | (x, y) :: ps, ds, r, h => by
    have r : Reps S H B Γ (x :: y :: flatW ps) ds := r
    cases r with
    | @cons _ _ d1 ds r1 t =>
      cases t with
      | @cons _ _ d2 ds r2 t =>
        have h : (keyOk d1 && (dsplit ds).1.all keyOk) = true := h
        rw [Bool.and_eq_true] at h
        obtain ⟨kvs, e1, e2, e3⟩ := pairs_kv t h.2
        obtain ⟨k, rfl, rfl⟩ := key_of_rep r1 h.1
        exact ⟨(k, y) :: kvs, by rw [e1]; rfl, by show keyD k :: (dsplit ds).1 = _; rw [e2]; rfl, .cons r2 e3⟩
theorem eok_disp (hK : X.K = S.K) {ys : List Ex} {prs : List (Ex × Ex)} {keys : List (Option Expr)} {values : List Expr} {pos : Pos} (hP : PPs X pos keys values (prs.map fun p => (tD S H0 W C p.1, tD S H0 W C p.2))) (hall : keys.all (·.isSome) = true) (hl : keys.length = values.length) (h0 : keys ≠ []) (h15 : keys.length ≤ 15) :
    PE X (.Dict keys values pos) (tD S H0 W C (.dic (flatP prs) ys)) := by
  refine (pe_disp hP hall hl h0 h15).imp fun σ H Q ⟨env, g, B, Γ, sl, ce, h⟩ p hp => ?_
  have sm := same_laid (o := .dK []) hp
  have st : Step H B Γ (upd H p (.dK [])) (fun b => B b ∨ b = p) Γ := (Same.step sm).grow (fun _ q => .inl q) fun a q => q.elim .inl fun z => .inr (by rw [z]; exact hp)
  have np : p ∉ Γ := fun z => ce.ok.live (ce.ok.cell _ z) hp
  have ce' : Cells S (upd H p (.dK [])) g (fun b => B b ∨ b = p) Γ := (ce.same sm).bad (fun _ q => .inl q) fun a q => by
    rcases q with q | q
    · exact (ce.same sm).ok.kin a q
    · rw [q]; exact .inr ⟨[], upd_same⟩
  have h : Out S σ W H B Γ ((evEs C (flatP prs) env g).bind fun ds g1 => if (dsplit ds).1.all keyOk && Nat.ble (dsplit ds).1.length 15 then
      R.ok (D.dic (((dsplit ds).1.zip (dsplit ds).2).foldl (fun (r : List D × List D) p => dput p.1 p.2 r.1 r.2) ([], [])).1 (((dsplit ds).1.zip (dsplit ds).2).foldl (fun (r : List D × List D) p => dput p.1 p.2 r.1 r.2) ([], [])).2) g1 else .no) _ := h
  refine pairs_run (P := fun ds g1 _ _ _ => Out S σ W H B Γ (if (dsplit ds).1.all keyOk && Nat.ble (dsplit ds).1.length 15 then
      R.ok (D.dic (((dsplit ds).1.zip (dsplit ds).2).foldl (fun (r : List D × List D) p => dput p.1 p.2 r.1 r.2) ([], [])).1 (((dsplit ds).1.zip (dsplit ds).2).foldl (fun (r : List D × List D) p => dput p.1 p.2 r.1 r.2) ([], [])).2) g1 else .no) (fun d g' H' B' Γ' => ∀ v, Rep S H' B' Γ' v d → (isF S.T (.dic (flatP prs) ys) = true → FreshAt S H H' B' Γ' v d) → Q v H')) prs (sl.step ce.ok st) ce' ?_ fun ds g1 H1 B1 Γ1 ps ce1 s1 rs h1 => ?_
  · cases e : evEs C (flatP prs) env g with
    | ok ds g1 => rw [e] at h; exact fun H1 B1 Γ1 c s => h
    | exc c p g1 => rw [e] at h; exact fun H' B' Γ' cls dd c1 s x => h H' B' Γ' cls dd c1 (st.trans s) x
    | no => rw [e] at h; exact h
  · by_cases c : ((dsplit ds).1.all keyOk && Nat.ble (dsplit ds).1.length 15) = true
    · rw [if_pos c] at h1
      rw [Bool.and_eq_true] at c
      obtain ⟨kvs, e1, e2, r2⟩ := pairs_kv rs c.1
      obtain ⟨m1, m2⟩ := merge_rep (S := S) (H := H1) (B := B1) (Γ := Γ1) (more := kvs) (kvs := []) r2 rfl .nil
      rw [← e2] at m1 m2
      have hp1 : H1 p = some (.dK []) := s1.ext _ _ upd_same np
      have bp : B1 p := s1.bsub p (.inr rfl)
      have np1 : p ∉ Γ1 := fun z => (s1.gnew p z).elim np fun e => by rw [upd_same] at e; cases e
      have c2 : Cells S (upd H1 p (.dK (mergeK [] kvs))) g1 B1 Γ1 := ce1.write np1 bp (.inr ⟨_, rfl⟩)
      have less : ∀ b, (B1 b ∧ b ≠ p) → B1 b := fun b q => q.1
      have c3 : Cells S (upd H1 p (.dK (mergeK [] kvs))) g1 (fun b => B1 b ∧ b ≠ p) Γ1 :=
        ⟨⟨fun b q => c2.ok.kin b q.1, fun b m => ⟨c2.ok.cell b m, fun z => np1 (by rw [← z]; exact m)⟩⟩, c2.len, c2.nd, c2.nl, fun n ds e => let ⟨x, vs, e1, e2, r⟩ := c2.at_ n ds e; ⟨x, vs, e1, e2, r.less less⟩⟩
      have sw := (st.trans s1).write (a := p) (o' := .dK (mergeK [] kvs)) hp
      have s3 : Step H B Γ (upd H1 p (.dK (mergeK [] kvs))) (fun b => B1 b ∧ b ≠ p) Γ1 :=
        ⟨sw.ext, fun b q => ⟨sw.bsub b q, fun z => ce.ok.live (z ▸ q) hp⟩, fun b q => sw.bnew b q.1, sw.gpre, sw.gnew, sw.live⟩
      have rr := m2.rew ce1.ok (ext_write (o' := .dK (mergeK [] kvs)) bp)
      refine ⟨hp1, kvs, e1, ?_, ?_⟩
      · have := Nat.le_of_ble_eq_true c.2
        rw [e2, List.length_map] at this
        exact this
      · exact h1 _ _ _ c3 s3 (.ref p) (.dic upd_same (fun z => z.2 rfl) m1 (rr.less less)) fun _ => ⟨p, _, rfl, hp, fun z => z.2 rfl, upd_same, m1, rr.less fun b q => q.elim (fun z => z.1) fun z => by rw [z]; exact bp⟩
    · rw [if_neg c] at h1; exact h1.elim
def chkPs (f : Ex → Expr → Bool) : List Ex → List (Option Expr) → List Expr → Bool
  | [], [], [] => true
  | a :: b :: es, some k :: ks, v :: vs => f a k && f b v && chkPs f es ks vs
  | _, _, _ => false
theorem chkPs_ok {f : Ex → Expr → Bool} {pos : Pos} (hf : ∀ e p, f e p = true → PE X p (tD S H0 W C e)) : ∀ (es : List Ex) (ks : List (Option Expr)) (vs : List Expr), chkPs f es ks vs = true →
    ∃ prs, es = flatP prs ∧ PPs X pos ks vs (prs.map fun p => (tD S H0 W C p.1, tD S H0 W C p.2)) ∧ ks.all (·.isSome) = true ∧ ks.length = vs.length
  | [], [], [], _ => ⟨[], rfl, pps_nil, rfl, rfl⟩
  | a :: b :: es, some k :: ks, v :: vs, h => by
    have h : (f a k && f b v && chkPs f es ks vs) = true := h
    rw [Bool.and_eq_true, Bool.and_eq_true] at h
    obtain ⟨prs, e, hp, h1, h2⟩ := chkPs_ok hf es ks vs h.2
    exact ⟨(a, b) :: prs, by rw [e]; rfl, pps_cons (hf _ _ h.1.1) (hf _ _ h.1.2) hp, by simpa using h1, by simp [h2]⟩
  | [], [], _ :: _, h => by cases h
  | [], _ :: _, _, h => by cases h
  | [_], _, _, h => by cases h
  | _ :: _ :: _, [], _, h => by cases h
  | _ :: _ :: _, none :: _, _, h => by cases h
  | _ :: _ :: _, some _ :: _, [], h => by cases h
def vDict : Expr → Option (List (Option Expr) × List Expr)
  | .Dict ks vs _ => some (ks, vs)
  | _ => none
theorem vDict_ok {e : Expr} {ks : List (Option Expr)} {vs : List Expr} (h : vDict e = some (ks, vs)) : ∃ pos, e = .Dict ks vs pos := by
  unfold vDict at h
  split at h
  · injection h with h; injection h with h1 h2; subst h1 h2; exact ⟨_, rfl⟩
  · cases h
end

/-! ### x[j] = e -/
def rSetDic : V → V → V → Hp → (Hp → Prop) → Prop := fun o i v H Q => ∃ a H', o = .ref a ∧ DPut H a i v H' ∧ Q H'
def rSetR : V → V → V → Hp → (Hp → Prop) → Prop := fun o i v H Q => rSetL o i v H Q ∨ rSetDic o i v H Q
theorem set_R {X : Cx} (hu : X.A.units + 1 < cLine) : PSet X rSetR := by
  intro pins s σ H o i v ov iv u Q I ro ri rv h
  rcases h with h | ⟨a, H', rfl, g, q⟩
  · exact set_list pins s σ H o i v ov iv u Q I ro ri rv h
  · cases (show ov = Value.ref a from ro)
    exact d_setItem hu I g ri rv fun s' I' => ⟨H', I', q⟩
section
variable {S : Inf} {H0 Hs H H1 : Hp} {B0 Bs B B1 : Bad} {Γ0 Γs Γ Γ1 : List Addr} {W : WX} {fr : Bool} {C : Nat → List D → Gs → R D} {X : Cx} {Z : Ends} {σ : L2.St} {env : Env} {g : Gs}
/-- x[j] = e: the value, the list, the place -/
theorem law_setx {i : Nat} {j e : Ex} (h : tS S H0 B0 Γ0 W fr C (.setx i j e) Z σ H) : tAsg (tD S H0 W C e) (gSub (tVar i) (tD S H0 W C j) rSetR) Z σ H := by
  obtain ⟨env, g, B, Γ, ok0, sl, ce, s0, h⟩ := h
  refine ⟨env, g, B, Γ, sl, ce, (OutS.to sl ce.ok s0 .refl h).imp fun d g1 H1 B1 Γ1 c1 s1 h v rv _ => ?_⟩
  have sl1 := sl.step ce.ok s1
  cases es : getS env i with
  | u => rw [es] at h; exact h.elim
  | p x =>
    rw [es] at h
    cases x with
    | mref m =>
      have q := sl1.at_ i
      rw [es] at q
      obtain ⟨w, ew, rw'⟩ := q
      refine ⟨w, ew, env, g1, B1, Γ1, sl1, c1, ?_⟩
      refine (OutS.to sl1 c1.ok (s0.trans s1) (s1.later ce.ok) h).imp fun k g2 H2 B2 Γ2 c2 s2 o kv rk _ => ?_
      cases rk with
      | int n =>
        simp only at o
        cases eg : g2[m]? with
        | none => rw [eg] at o; exact o.elim
        | some ds =>
          rw [eg] at o
          simp only at o
          cases ei : ixN ds.length n with
          | none => rw [ei] at o; exact o.elim
          | some mm =>
            rw [ei] at o
            by_cases hn : D.noL d = true
            · simp only [hn, if_true] at o
              have rw2 := rw'.step c1.ok s2
              cases rw2 with
              | mref hm =>
                rename_i a
                obtain ⟨a', vs, e1, e2, e3⟩ := c2.at_ m ds eg
                rw [hm] at e1
                cases e1
                have ba : B2 a := c2.ok.cell a (List.mem_of_getElem? hm)
                refine .inl ⟨a, vs, n, mm, rfl, rfl, e2, by rw [e3.length]; exact ei, ?_⟩
                have ext : ∀ c o, H2 c = some o → ¬ B2 c → upd H2 a (.lst (vs.set mm v)) c = some o := ext_write ba
                have na0 : ∀ b o, H0 b = some o → b ∉ Γ0 → b ≠ a := fun b o e n z => by
                  rcases (s0.trans (s1.trans s2)).gnew a (List.mem_of_getElem? hm) with y | y
                  · exact n (by rw [z]; exact y)
                  · rw [z, y] at e; cases e
                refine o σ _ B2 Γ2 ⟨sl1.len, fun jj => ?_, sl1.apart⟩ ⟨⟨fun x bx => ?_, c2.ok.cell⟩, by rw [List.length_set]; exact c2.len, c2.nd, fun nn dd ee => ?_, fun nn dd ee => ?_⟩ ?_ (((s1.trans s2).later ce.ok).trans (.write ba))
                · have q := (sl1.step c1.ok s2).at_ jj
                  cases es2 : getS env jj with
                  | u => trivial
                  | p dd =>
                    rw [es2] at q
                    obtain ⟨x, e1, r⟩ := q
                    exact ⟨x, e1, r.rew c2.ok ext⟩
                  | o dd =>
                    rw [es2] at q
                    obtain ⟨x, e1, b1, n1, z1, r1⟩ := q
                    have nx : x ≠ a := fun z => n1 (by rw [z]; exact List.mem_of_getElem? hm)
                    refine ⟨x, e1, b1, n1, z1, ?_⟩
                    cases dd with
                    | lst ds => obtain ⟨vs, q1, q2⟩ := r1; exact ⟨vs, by rw [upd_ne nx]; exact q1, q2.rew c2.ok ext⟩
                    | dic ks ws => obtain ⟨kvs, q1, q2, q3⟩ := r1; exact ⟨kvs, by rw [upd_ne nx]; exact q1, q2, q3.rew c2.ok ext⟩
                    | _ => exact r1.elim
                · by_cases z : x = a
                  · rw [z, upd_same]; exact .inl ⟨_, rfl⟩
                  · rw [upd_ne z]; exact c2.ok.kin x bx
                · rw [List.getElem?_set] at ee
                  by_cases hmn : m = nn
                  · rw [if_pos hmn] at ee
                    split at ee
                    · injection ee with ee
                      subst ee
                      exact noLs_set (c2.nl m ds eg) hn mm
                    · cases ee
                  · rw [if_neg hmn] at ee; exact c2.nl nn dd ee
                · rw [List.getElem?_set] at ee
                  by_cases hmn : m = nn
                  · rw [if_pos hmn] at ee
                    split at ee
                    · injection ee with ee
                      subst ee hmn
                      exact ⟨a, _, hm, upd_same, ((e3.set mm ((rv.step c1.ok s2))).rew c2.ok ext)⟩
                    · cases ee
                  · rw [if_neg hmn] at ee
                    obtain ⟨x, ws, f1, f2, f3⟩ := c2.at_ nn dd ee
                    have nx : x ≠ a := fun z => by
                      rw [z] at f1
                      exact hmn (nd_ix c2.nd hm f1)
                    exact ⟨x, ws, f1, by rw [upd_ne nx]; exact f2, f3.rew c2.ok ext⟩
                · have st := s0.trans (s1.trans s2)
                  refine ⟨fun b o e n => ?_, st.bsub, st.bnew, st.gpre, st.gnew, fun b n => ?_⟩
                  · rw [upd_ne (na0 b o e n)]; exact st.ext b o e n
                  · by_cases q : b = a
                    · rw [q, upd_same]; exact fun z => nomatch z
                    · rw [upd_ne q]; exact st.live b n
            · simp only [hn, if_false] at o; exact o.elim
      | _ => exact o.elim
    | _ => exact h.elim
  | o x =>
    rw [es] at h
    cases x with
    | lst ds =>
      obtain ⟨a, ea, ba, na, za, ow⟩ := own_at sl1 es
      refine ⟨.ref a, ea, env, g1, B1, Γ1, sl1, c1, ?_⟩
      refine (OutS.to sl1 c1.ok (s0.trans s1) (s1.later ce.ok) h).imp fun k g2 H2 B2 Γ2 c2 s2 o kv rk _ => ?_
      cases rk with
      | int n =>
        simp only at o
        cases ei : ixN ds.length n with
        | none => rw [ei] at o; exact o.elim
        | some m =>
          rw [ei] at o
          have sl2 := sl1.step c1.ok s2
          obtain ⟨a', ea', ba', na', za', xs1, hxs1, rx1⟩ := own_at sl2 es
          rw [ea] at ea'
          cases ea'
          refine .inl ⟨a, xs1, n, m, rfl, rfl, hxs1, by rw [rx1.length]; exact ei, ?_⟩
          exact o σ _ B2 Γ2 (sl2.write c2.ok es ea ba' ⟨_, upd_same, (rx1.set m (rv.step c1.ok s2)).rew c2.ok (ext_write ba')⟩) (c2.write na' ba' (.inl ⟨_, rfl⟩)) ((s0.trans (s1.trans s2)).write za') (((s1.trans s2).later ce.ok).trans (.write ba'))
      | _ => exact o.elim
    | dic ks ws =>
      obtain ⟨a, ea, ba, na, za, ow⟩ := own_at sl1 es
      refine ⟨.ref a, ea, env, g1, B1, Γ1, sl1, c1, ?_⟩
      refine (OutS.to sl1 c1.ok (s0.trans s1) (s1.later ce.ok) h).imp fun k g2 H2 B2 Γ2 c2 s2 o kv rk _ => ?_
      by_cases hk : (keyOk k && Nat.blt ks.length lineN) = true
      · rw [if_pos hk] at o
        rw [Bool.and_eq_true] at hk
        have hz : ks.length < lineN := Nat.le_of_ble_eq_true hk.2
        have sl2 := sl1.step c1.ok s2
        obtain ⟨a', ea', ba', na', za', kvs, e1, e2, e3⟩ := own_at sl2 es
        rw [ea] at ea'
        cases ea'
        obtain ⟨key, rfl, rfl⟩ := key_of_rep rk hk.1
        obtain ⟨p1, p2⟩ := put_rep (k := key) (rv.step c1.ok s2) e2 e3
        refine .inr ⟨a, _, rfl, DPut.k e1 (by rw [← e2, List.length_map] at hz; exact Nat.lt_of_lt_of_le hz lineN_le), ?_⟩
        exact o σ _ B2 Γ2 (sl2.write c2.ok es ea ba' ⟨_, upd_same, p1, p2.rew c2.ok (ext_write ba')⟩) (c2.write na' ba' (.inr ⟨_, rfl⟩)) ((s0.trans (s1.trans s2)).write za') (((s1.trans s2).later ce.ok).trans (.write ba'))
      · rw [if_neg hk] at o; exact o.elim
    | _ => exact h.elim
end
end Rz

/-! RzS15 -/
set_option Elab.async false
set_option linter.all false
set_option maxRecDepth 100000
set_option maxHeartbeats 4000000
namespace Rz
open PySem PySem.Spec PyProof.Rows L2

def gliB (sc : Scope) (x : Str) : Bool := isK sc x .globalImplicit
def chkBi (f : Ex → Expr → Bool) (sc : Scope) (b : Bi) (es : List Ex) (x : Str) (ps : List Expr) : Bool :=
  (decide (biNm b = some x) && gliB sc x && chkL f es ps && !es.isEmpty) ||
  (decide (x = ("isinstance" : Str)) && gliB sc "isinstance" && (match es, ps, tyNm b with
    | [e], [p, q], some (y, _) => decide (vName q = some y) && gliB sc y && chkL f [e] [p]
    | _, _, _ => false)) ||
  (decide (x = ("list" : Str)) && gliB sc "list" && (match b, es, ps with
    | .lrange, [e], [p] => (match vCall p with
      | some (y, [q]) => decide (y = ("range" : Str)) && gliB sc "range" && chkL f [e] [q]
      | _ => false)
    | _, _, _ => false))
def chkDz (f : Ex → Expr → Bool) (sc : Scope) (b : Bi) (es : List Ex) (x : Str) (ps : List Expr) : Bool :=
  decide (x = ("dict" : Str)) && gliB sc "dict" && (match b, es, ps with
    | .dzip, [e, e2], [p] => (match vCall p with
      | some (y, [q, q2]) => decide (y = ("zip" : Str)) && gliB sc "zip" && chkL f [e, e2] [q, q2]
      | _ => false)
    | _, _, _ => false)
def chkSl (f : Ex → Expr → Bool) : SlK → List Ex → Option Expr → Option Expr → Bool
  | .lo, [i], some p, none => f i p
  | .hi, [i], none, some p => f i p
  | .both, [i, j], some p, some q => f i p && f j q
  | _, _, _, _ => false
def chkC (f : Ex → Expr → Bool) : List Ex → List Expr → Bool
  | [], [] => true
  | [c], [p] => f c p
  | _, _ => false
def obB : Expr → Bool
  | .Name _ _ => true
  | .Constant _ _ _ => true
  | _ => false
theorem obB_ok {o : Expr} (h : obB o = true) (m : Str) (env : PySem.Env) : attributeBase o m env (eval o env) = eval o env := by
  cases o <;> first | rfl | cases h
def chkMt (f : Ex → Expr → Bool) (b : Bi) (a : Ex) (es : List Ex) (o : Expr) (m : Str) (ps : List Expr) (ln : Bool) : Bool :=
  obB o && ln && f a o && match b, es, ps with
    | .index, [e], [q] => decide (m = ("index" : Str)) && unst q && f e q
    | .get, [e, e2], [q, q2] => decide (m = ("get" : Str)) && unst q && f e q && unst q2 && f e2 q2
    | _, _, _ => false
def chkE (J : Tab) (N : List Str) : Nat → Scope → Option Scope → Ex → Expr → Bool
  | 0, _, _, _, _ => false
  | m + 1, sc, fs, e, pe => match vBool pe with
    | some (_, [p1], _) => chkE J N m sc fs e p1
    | _ => match e with
      | .lit d => litB d pe
      | .var i => match vName pe with
        | some x => nmB N sc i x
        | none => false
      | .glo x d => match vName pe with
        | some y => decide (y = sOf x) && gliB sc y && nmOk y && gloIn J.glo x d
        | none => false
      | .tup es => match vTup pe with
        | some ps => chkL (chkE J N m sc fs) es ps && Nat.ble es.length 1000
        | none => false
      | .lst es => match vLst pe with
        | some ps => chkL (chkE J N m sc fs) es ps && Nat.ble es.length 1000
        | none => false
      | .op o a b => match vBin pe with
        | some (pa, p, pb) => decide (binOf o = some p) && chkE J N m sc fs a pa && chkE J N m sc fs b pb
        | none => match vCmp pe with
          | some (pa, [p], [pb]) => decide (cmpOf o = some p) && chkE J N m sc fs a pa && chkE J N m sc fs b pb && noSet pb
          | _ => false
      | .neg a => match vUn pe with
        | some (.USub, pa) => chkE J N m sc fs a pa
        | _ => false
      | .not a => match vUn pe with
        | some (.Not, pa) => chkE J N m sc fs a pa
        | _ => false
      | .and_ a b => match vBool pe with
        | some (.And, pa :: pb :: rest, pos) => chkE J N m sc fs a pa && chkE J N m sc fs b (.BoolOp .And (pb :: rest) pos)
        | _ => false
      | .or_ a b => match vBool pe with
        | some (.Or, pa :: pb :: rest, pos) => chkE J N m sc fs a pa && chkE J N m sc fs b (.BoolOp .Or (pb :: rest) pos)
        | _ => false
      | .ite c a b => match vIf pe with
        | some (pc, pa, pb) => chkE J N m sc fs c pc && chkE J N m sc fs a pa && chkE J N m sc fs b pb
        | none => false
      | .chain o p a b c => match vCmp pe with
        | some (pa, [po, pp], [pb, pc]) => decide (cmpOf o = some po) && decide (cmpOf p = some pp) && chkE J N m sc fs a pa && chkE J N m sc fs b pb && chkE J N m sc fs c pc && noSet pb && noSet pc
        | _ => false
      | .call f es => match vCall pe with
        | some (x, ps) => decide (J.nam f = some (x, es.length)) && gliB sc x && nmOk x && chkL (chkE J N m sc fs) es ps
        | none => false
      | .bi b es => match vCall pe with
        | some (x, ps) => chkBi (chkE J N m sc fs) sc b es x ps || chkDz (chkE J N m sc fs) sc b es x ps
        | none => false
      | .meth b a es => match vMth pe with
        | some (o, mn, ps, ln) => chkMt (chkE J N m sc fs) b a es o mn ps ln
        | none => false
      | .ix a i => match vSub pe with
        | some (pa, pi) => noSl pi && chkE J N m sc fs a pa && chkE J N m sc fs i pi
        | none => false
      | .sl k a es => match vSub pe with
        | some (pa, ps) => match vSlice ps with
          | some (lo, hi) => chkE J N m sc fs a pa && chkSl (chkE J N m sc fs) k es lo hi
          | none => match k, es with
            | .rev, [] => vRev ps && chkE J N m sc fs a pa
            | _, _ => false
        | none => false
      | .comp e t k es c => match vComp pe with
        | some (elt, tg, iter, ifs, scope, _) => chkE J N m (relS scope sc) (some scope) e elt && chkTg N (relS scope sc) (some scope) t tg && chkIt (chkE J N m sc fs) sc tg k es iter &&
            chkC (chkE J N m (relS scope sc) (some scope)) c ifs && blkB N sc scope t.ix && noSet iter
        | none => false
      | .fz _ e => chkE J N m sc fs e pe
      | .dic es _ => match vDict pe with
        | some (ks, vs) => !ks.isEmpty && Nat.ble ks.length 15 && chkPs (chkE J N m sc fs) es ks vs
        | none => false
      | _ => false

section
variable {S : Inf} {J : Tab} {n : Nat} {N : List Str} {H0 : Hp}
theorem Ctx.gl {sc : Scope} {fs : Option Scope} {X : Cx} {W : WX} (c : Ctx S n N sc fs X W) {x : Str} (h : gliB sc x = true) : Gl X x := by
  show X.env.scope.names.lookup x = _
  rw [c.eS]; exact isK_ok h
theorem Ctx.mgn {sc : Scope} {fs : Option Scope} {X : Cx} {W : WX} (c : Ctx S n N sc fs X W) (L : Lnk S J n) {x : Str} (h : x ∈ blts) : X.mg x = none := by
  rw [c.inn.mg]; exact L.blt x h
theorem visB_ok {sc : Scope} {x : Str} (h : visB sc x = true) : Vis sc x := by
  unfold visB at h
  rw [Bool.or_eq_true, Bool.or_eq_true] at h
  rcases h with (h | h) | h
  · exact .inl (isK_ok h)
  · exact .inr (.inl (isK_ok h))
  · exact .inr (.inr (isK_ok h))
theorem nmOk_ok {x : Str} (h : nmOk x = true) : (x == ("__debug__" : Str)) = false ∧ (x == ("__classdict__" : Str)) = false := by
  unfold nmOk at h
  rw [Bool.and_eq_true] at h
  exact ⟨by simpa using h.1, by simpa using h.2⟩
theorem sndL {W : WX} {X : Cx} {C : Nat → List D → Gs → R D} {f : Ex → Expr → Bool} (hf : ∀ e p, f e p = true → PE X p (tD S H0 W C e)) : ∀ (es : List Ex) (ps : List Expr), chkL f es ps = true → PA X ps (tDs S H0 W C es)
  | [], [], _ => aok_nil
  | [], _ :: _, h => by cases h
  | _ :: _, [], h => by cases h
  | e :: es, p :: ps, h => by
    have h : (unst p && f e p && chkL f es ps) = true := h
    rw [Bool.and_eq_true, Bool.and_eq_true] at h
    exact aok_cons (hf e p h.1.2) (sndL hf es ps h.2) (star_cons h.1.1)
mutual
theorem sndTg {sc : Scope} {fs : Option Scope} {X : Cx} {W : WX} (c : Ctx S n N sc fs X W) : ∀ (t : Tg) (p : Expr), chkTg N sc fs t p = true → PG X p (gOf S.K t)
  | .nm i, p, h => by
    unfold chkTg at h
    cases e : vName p with
    | none => rw [e] at h; cases h
    | some x =>
      rw [e] at h
      obtain ⟨q, rfl⟩ := vName_ok e
      have h : stB N sc fs i x = true := h
      unfold stB at h
      rw [Bool.and_eq_true, Bool.or_eq_true, Bool.and_eq_true] at h
      have h1 : X.N[i]? = some x := by rw [c.eN]; exact of_decide_eq_true h.1
      refine pg_name (by rw [c.eN]; exact c.nd) h1 ?_ ?_
      · rw [c.eS]; exact h.2.elim (fun z => .inl (isK_ok z)) fun z => .inr (isK_ok z.1)
      · rw [c.eS]; exact h.2.elim (fun z => .inr (isK_ok z)) fun z => .inl (c.fn x z.2)
  | .tp ts, p, h => by
    unfold chkTg at h
    cases e : vTup p with
    | none => rw [e] at h; cases h
    | some ps =>
      rw [e] at h
      obtain ⟨k, q, rfl⟩ := vTup_ok e
      have h : chkTgs N sc fs ts ps = true := h
      obtain ⟨h1, h2⟩ := chkTgs_st ts ps h
      show PG X _ (gTup S.K ts.length (gsOf S.K ts))
      rw [← c.inn.K, h2]
      rw [c.inn.K]
      have := pg_tup (k := k) (pos := q) c.calm (sndTgs c ts ps h) (assign_len h1) (assign_nost h1)
      rw [c.inn.K] at this
      exact this
theorem sndTgs {sc : Scope} {fs : Option Scope} {X : Cx} {W : WX} (c : Ctx S n N sc fs X W) : ∀ (ts : List Tg) (ps : List Expr), chkTgs N sc fs ts ps = true → PGs X ps (gsOf S.K ts)
  | [], [], _ => pgs_nil
  | [], _ :: _, h => by cases h
  | _ :: _, [], h => by cases h
  | t :: ts, p :: ps, h => by
    have h : (unst p && chkTg N sc fs t p && chkTgs N sc fs ts ps) = true := h
    rw [Bool.and_eq_true, Bool.and_eq_true] at h
    exact pgs_cons (sndTg c t p h.1.2) (sndTgs c ts ps h.2) (by rw [assign_cons h.1.1]; rfl)
theorem chkTgs_st {sc : Scope} {fs : Option Scope} : ∀ (ts : List Tg) (ps : List Expr), chkTgs N sc fs ts ps = true → ps.all unst = true ∧ ts.length = ps.length
  | [], [], _ => ⟨rfl, rfl⟩
  | [], _ :: _, h => by cases h
  | _ :: _, [], h => by cases h
  | t :: ts, p :: ps, h => by
    have h : (unst p && chkTg N sc fs t p && chkTgs N sc fs ts ps) = true := h
    rw [Bool.and_eq_true, Bool.and_eq_true] at h
    obtain ⟨h1, h2⟩ := chkTgs_st ts ps h.2
    exact ⟨by rw [List.all_cons, h.1.1, h1]; rfl, by rw [List.length_cons, List.length_cons, h2]⟩
end
theorem isTp_ok {e : Expr} (h : isTp e = true) : ∃ es k p, e = .Tuple es k p := by
  cases e with
  | Tuple es k p => exact ⟨es, k, p, rfl⟩
  | _ => cases h
theorem mem_range : ("range" : Str) ∈ blts := by decide
theorem mem_zip : ("zip" : Str) ∈ blts := by decide
theorem mem_enum : ("enumerate" : Str) ∈ blts := by decide
theorem mem_list : ("list" : Str) ∈ blts := by decide
theorem mem_isi : ("isinstance" : Str) ∈ blts := by decide
theorem sndIt {sc : Scope} {fs : Option Scope} {X : Cx} {W : WX} {C : Nat → List D → Gs → R D} (c : Ctx S n N sc fs X W) (L : Lnk S J n) {f : Ex → Expr → Bool} (hf : ∀ e p, f e p = true → PE X p (tD S H0 W C e)) {k : ItK} {es : List Ex} {tg p : Expr} (h : chkIt f sc tg k es p = true) :
    PI X tg p (tIt S H0 W C k es) := by
  unfold chkIt at h
  split at h
  · exact iok_seq c.inn.K (hf _ _ h)
  · split at h
    · rename_i x a e
      obtain ⟨q, r, rfl⟩ := vCall_ok e
      rw [Bool.and_eq_true, Bool.and_eq_true] at h
      have hx := of_decide_eq_true h.1.1
      subst hx
      obtain ⟨s1, s2⟩ := chkL_st h.2
      rw [List.all_cons, Bool.and_eq_true] at s1
      match es, h.2, s2 with
      | [e], h2, _ => exact iok_rng (c.gl h.1.2) (c.mgn L mem_range) (sndL hf _ _ h2) (star_cons s1.1)
      | [], h2, _ => cases h2
      | _ :: _ :: _, _, s2 => simp at s2
    · cases h
  · split at h
    · rename_i x a b e
      obtain ⟨q, r, rfl⟩ := vCall_ok e
      rw [Bool.and_eq_true, Bool.and_eq_true] at h
      have hx := of_decide_eq_true h.1.1
      subst hx
      obtain ⟨s1, s2⟩ := chkL_st h.2
      rw [List.all_cons, List.all_cons, Bool.and_eq_true, Bool.and_eq_true] at s1
      match es, h.2, s2 with
      | [e, e2], h2, _ => exact iok_rng2 (c.gl h.1.2) (c.mgn L mem_range) (sndL hf _ _ h2) (by rw [star_cons s1.1, star_cons s1.2.1]; rfl) (star_cons s1.2.1)
      | [], h2, _ => cases h2
      | [_], _, s2 => simp at s2
      | _ :: _ :: _ :: _, _, s2 => simp at s2
    · cases h
  · split at h
    · rename_i x a b e
      obtain ⟨q, r, rfl⟩ := vCall_ok e
      rw [Bool.and_eq_true, Bool.and_eq_true, Bool.and_eq_true] at h
      have hx := of_decide_eq_true h.1.1.1
      subst hx
      obtain ⟨es', k', p', rfl⟩ := isTp_ok h.2
      obtain ⟨s1, s2⟩ := chkL_st h.1.2
      rw [List.all_cons, List.all_cons, Bool.and_eq_true, Bool.and_eq_true] at s1
      match es, h.1.2, s2 with
      | [e, e2], h2, _ => exact iok_zip c.inn.K (c.gl h.1.1.2) (c.mgn L mem_zip) (sndL hf _ _ h2) (star_cons s1.1) (star_any (by rw [List.all_cons, s1.2.1]; rfl))
      | [], h2, _ => cases h2
      | [_], _, s2 => simp at s2
      | _ :: _ :: _ :: _, _, s2 => simp at s2
    · cases h
  · split at h
    · rename_i x a e
      obtain ⟨q, r, rfl⟩ := vCall_ok e
      rw [Bool.and_eq_true, Bool.and_eq_true, Bool.and_eq_true] at h
      have hx := of_decide_eq_true h.1.1.1
      subst hx
      obtain ⟨es', k', p', rfl⟩ := isTp_ok h.2
      obtain ⟨s1, s2⟩ := chkL_st h.1.2
      rw [List.all_cons, Bool.and_eq_true] at s1
      match es, h.1.2, s2 with
      | [e], h2, _ => exact iok_enum c.inn.K (c.gl h.1.1.2) (c.mgn L mem_enum) (sndL hf _ _ h2) (star_cons s1.1)
      | [], h2, _ => cases h2
      | _ :: _ :: _, _, s2 => simp at s2
    · cases h
  · cases h
theorem biNm_mem {b : Bi} {x : Str} (h : biNm b = some x) : x ∈ blts := by
  cases b <;> first | (cases h; decide) | cases h
theorem tyNm_mem {b : Bi} {x : Str} {T : String} (h : tyNm b = some (x, T)) : x ∈ blts := by
  cases b <;> first | (cases h; decide) | cases h
theorem sndBi {sc : Scope} {fs : Option Scope} {X : Cx} {W : WX} {C : Nat → List D → Gs → R D} (c : Ctx S n N sc fs X W) (L : Lnk S J n) {f : Ex → Expr → Bool} (hf : ∀ e p, f e p = true → PE X p (tD S H0 W C e)) {b : Bi} {es : List Ex} {x : Str} {ps : List Expr} {p pos : Pos} (h : chkBi f sc b es x ps = true) :
    PE X (.Call (.Name x p) ps [] pos) (tD S H0 W C (.bi b es)) := by
  unfold chkBi at h
  rw [Bool.or_eq_true, Bool.or_eq_true] at h
  rcases h with (h | h) | h
  · rw [Bool.and_eq_true, Bool.and_eq_true, Bool.and_eq_true] at h
    obtain ⟨⟨⟨h1, h2⟩, h3⟩, h4⟩ := h
    have h1 := of_decide_eq_true h1
    obtain ⟨s1, s2⟩ := chkL_st h3
    cases es with
    | nil => cases h4
    | cons e es =>
      cases ps with
      | nil => cases h3
      | cons q qs => exact bi_ok c.inn.K c.calm h1 (c.gl h2) (c.mgn L (biNm_mem h1)) (sndL hf _ _ h3) s1
  · rw [Bool.and_eq_true, Bool.and_eq_true] at h
    obtain ⟨⟨h1, h2⟩, h3⟩ := h
    have h1 := of_decide_eq_true h1
    subst h1
    split at h3
    · rename_i e q r y T ht
      rw [Bool.and_eq_true, Bool.and_eq_true] at h3
      obtain ⟨⟨h4, h5⟩, h6⟩ := h3
      have h4 := of_decide_eq_true h4
      obtain ⟨p2, rfl⟩ := vName_ok h4
      have h6 : (unst q && f e q && true) = true := h6
      rw [Bool.and_true, Bool.and_eq_true] at h6
      exact eok_isi c.inn.K ht (c.gl h2) (c.mgn L mem_isi) (c.gl h5) (c.mgn L (tyNm_mem ht)) (hf _ _ h6.2) h6.1
    · cases h3
  · rw [Bool.and_eq_true, Bool.and_eq_true] at h
    obtain ⟨⟨h1, h2⟩, h3⟩ := h
    have h1 := of_decide_eq_true h1
    subst h1
    split at h3
    · rename_i e q
      split at h3
      · rename_i y r ev
        obtain ⟨p2, pos2, rfl⟩ := vCall_ok ev
        rw [Bool.and_eq_true, Bool.and_eq_true] at h3
        obtain ⟨⟨h4, h5⟩, h6⟩ := h3
        have h4 := of_decide_eq_true h4
        subst h4
        have h6 : (unst r && f e r && true) = true := h6
        rw [Bool.and_true, Bool.and_eq_true] at h6
        exact eok_lrange c.calm (c.gl h2) (c.mgn L mem_list) (c.gl h5) (c.mgn L mem_range) (hf _ _ h6.2) h6.1
      · cases h3
    · cases h3
theorem mem_dict : ("dict" : Str) ∈ blts := by decide
theorem sndDz {sc : Scope} {fs : Option Scope} {X : Cx} {W : WX} {C : Nat → List D → Gs → R D} (c : Ctx S n N sc fs X W) (L : Lnk S J n) {f : Ex → Expr → Bool} (hf : ∀ e p, f e p = true → PE X p (tD S H0 W C e)) {b : Bi} {es : List Ex} {x : Str} {ps : List Expr} {p pos : Pos} (h : chkDz f sc b es x ps = true) :
    PE X (.Call (.Name x p) ps [] pos) (tD S H0 W C (.bi b es)) := by
  unfold chkDz at h
  rw [Bool.and_eq_true, Bool.and_eq_true] at h
  obtain ⟨⟨h1, h2⟩, h3⟩ := h
  have h1 := of_decide_eq_true h1
  subst h1
  split at h3
  · rename_i e e2 q
    split at h3
    · rename_i y q1 q2 ev
      obtain ⟨p2, pos2, rfl⟩ := vCall_ok ev
      rw [Bool.and_eq_true, Bool.and_eq_true] at h3
      obtain ⟨⟨h4, h5⟩, h6⟩ := h3
      have h4 := of_decide_eq_true h4
      subst h4
      obtain ⟨s1, s2⟩ := chkL_st h6
      rw [List.all_cons, List.all_cons, Bool.and_eq_true, Bool.and_eq_true] at s1
      exact eok_dzip c.inn.K c.calm (c.gl h5) (c.mgn L mem_zip) (c.gl h2) (c.mgn L mem_dict) (sndL hf _ _ h6) (star_cons s1.1) (star_any (by rw [List.all_cons, s1.2.1]; rfl))
    · cases h3
  · cases h3
theorem sndMt {sc : Scope} {fs : Option Scope} {X : Cx} {W : WX} {C : Nat → List D → Gs → R D} (c : Ctx S n N sc fs X W) {f : Ex → Expr → Bool} (hf : ∀ e p, f e p = true → PE X p (tD S H0 W C e)) {b : Bi} {a : Ex} {es : List Ex} {o : Expr} {m : Str} {ps : List Expr} {ap cp : Pos} (h : chkMt f b a es o m ps (ap.endLine == cp.line) = true) :
    PE X (.Call (.Attribute o m ap) ps [] cp) (tD S H0 W C (.meth b a es)) := by
  unfold chkMt at h
  rw [Bool.and_eq_true, Bool.and_eq_true, Bool.and_eq_true] at h
  obtain ⟨⟨⟨h1, h2⟩, h3⟩, h4⟩ := h
  split at h4
  · rename_i e q
    rw [Bool.and_eq_true, Bool.and_eq_true] at h4
    obtain ⟨⟨h5, h6⟩, h7⟩ := h4
    have h5 := of_decide_eq_true h5
    subst h5
    have ha : PA X [q] (tDs S H0 W C [e]) := aok_cons (hf _ _ h7) aok_nil (star_cons h6)
    have q := pe_bm PySem.F.plainAttrs_list PySem.F.slot_list_index PySem.F.type_list_index mt_index (hf _ _ h3) ha (obB_ok h1 _ _) (by rw [star_cons h6]; rfl) h2 (star_cons h6) rfl
    rw [c.inn.K] at q
    exact eok_meth q rm_index
  · rename_i e e2 q q2
    rw [Bool.and_eq_true, Bool.and_eq_true, Bool.and_eq_true, Bool.and_eq_true] at h4
    obtain ⟨⟨⟨⟨h5, h6⟩, h7⟩, h8⟩, h9⟩ := h4
    have h5 := of_decide_eq_true h5
    subst h5
    have hu := c.room.units
    exact eok_get (by omega) (hf _ _ h3) (hf _ _ h7) (hf _ _ h9) ⟨obB_ok h1 _ _, by rw [star_cons h6, star_cons h8]; rfl, h2, by rw [star_cons h6, star_cons h8]; rfl⟩
  · cases h4
/-- the block's context -/
theorem Ctx.blk {sc scope : Scope} {fs : Option Scope} {X : Cx} {W : WX} (c : Ctx S n N sc fs X W) (hk : scope.kind = .function) (s : Shared) (H : Hp) (Cl : Addr) (cl : List (Str × Addr)) (fp : List Addr) :
    Ctx S n N (relS scope sc) (some scope) (X.blk s H scope (compEnvC scope cl Cl X.env) fp) WF0 where
  inn := ⟨c.inn.P, c.inn.w, c.inn.K, c.inn.mg, c.inn.base⟩
  eN := c.eN
  eS := by
    show relabel scope X.env = relS scope sc
    rw [← c.eS]; rfl
  calm := c.calm
  nd := c.nd
  room := c.room
  tk := takes0
  kind := hk
  fn := fun x h => by
    show (scope.names.lookup x == some .cell) = true
    have h : isK scope x .cell = true := h
    rw [isK_ok h]; rfl
def Snd (S : Inf) (H0 : Hp) (n : Nat) (W : WX) (X : Cx) (e : Ex) (pe : Expr) : Prop :=
  PE X pe (tD S H0 W (evF S.T n) e) ∧ PT X pe (tDT S H0 W (evF S.T n) e) ∧ ∀ op vs pos, pe = .BoolOp op vs pos → PW X pe (tDT S H0 W (evF S.T n) e)
theorem Snd.of {W : WX} {X : Cx} {e : Ex} {pe : Expr} (h : PE X pe (tD S H0 W (evF S.T n) e)) (hs : simpT pe = true) : Snd S H0 n W X e pe :=
  ⟨h, tok_val h (simpT_ok hs), fun op vs pos z => by subst z; cases hs⟩
theorem Snd.of2 {W : WX} {X : Cx} {e : Ex} {pe : Expr} (h : PE X pe (tD S H0 W (evF S.T n) e)) (ht : PT X pe (tDT S H0 W (evF S.T n) e)) (hs : vBool pe = none) : Snd S H0 n W X e pe :=
  ⟨h, ht, fun op vs pos z => by subst z; cases hs⟩
theorem relS_kind {scope sc : Scope} {N : List Str} {ix : List Nat} (h : blkB N sc scope ix = true) : scope.kind = .function := (blkB_ok h).kind
theorem sndE (L : Lnk S J n) : ∀ (m : Nat) (sc : Scope) (fs : Option Scope) (X : Cx) (W : WX) (e : Ex) (pe : Expr), Ctx S n N sc fs X W → chkE J N m sc fs e pe = true → Snd S H0 n W X e pe
  | 0, sc, fs, X, W, e, pe, c, h => by cases h
  | m + 1, sc, fs, X, W, e, pe, c, h => by
    have ih : ∀ {e : Ex} {p : Expr}, chkE J N m sc fs e p = true → Snd S H0 n W X e p := fun {e p} h => sndE L m sc fs X W e p c h
    have ihE : ∀ e p, chkE J N m sc fs e p = true → PE X p (tD S H0 W (evF S.T n) e) := fun e p h => (ih h).1
    unfold chkE at h
    split at h
    · rename_i op p1 pos ev
      have := vBool_ok ev
      subst this
      obtain ⟨h1, h2, _⟩ := ih h
      have hw : PW X (.BoolOp op [p1] pos) (tDT S H0 W (evF S.T n) e) := by
        cases op with
        | And => exact pw_and1 h2
        | Or => exact pw_or1 h2
      exact ⟨pe_one h1, hw.pt, fun _ _ _ _ => hw⟩
    · rename_i hnb
      split at h
      · -- lit
        obtain ⟨v, h1, h2⟩ := litB_ok (S := S) (X := X) h
        refine Snd.of (eok_lit h1 h2) ?_
        unfold litB at h
        split at h <;> first | rfl | cases h
      · -- var
        split at h
        · rename_i i _ x ev
          obtain ⟨p, rfl⟩ := vName_ok ev
          have h : nmB N sc i x = true := h
          unfold nmB at h
          rw [Bool.and_eq_true, Bool.and_eq_true] at h
          obtain ⟨d1, d2⟩ := nmOk_ok h.2
          exact Snd.of (eok_var (by rw [c.eN]; exact of_decide_eq_true h.1.1) (by rw [c.eS]; exact visB_ok h.1.2) d1 d2) rfl
        · cases h
      · -- glo
        split at h
        · rename_i x d _ y ev
          obtain ⟨p, rfl⟩ := vName_ok ev
          rw [Bool.and_eq_true, Bool.and_eq_true, Bool.and_eq_true] at h
          obtain ⟨⟨⟨h1, h2⟩, h3⟩, h4⟩ := h
          have h1 := of_decide_eq_true h1
          subst h1
          obtain ⟨v, u, g1, g2, g3⟩ := L.glo x d (gloIn_ok h4)
          exact Snd.of (eok_glo (pe_glob (c.gl h2) (by rw [c.inn.mg]; exact g1) g2 (nmOk_ok h3).1) g3) rfl
        · cases h
      · -- tup
        split at h
        · rename_i es ps ev
          obtain ⟨k, p, rfl⟩ := vTup_ok ev
          rw [Bool.and_eq_true] at h
          exact Snd.of (eok_tup (sndL ihE _ _ h.1) (Nat.le_of_ble_eq_true h.2)) rfl
        · cases h
      · -- lst
        split at h
        · rename_i es ps ev
          obtain ⟨p, rfl⟩ := vLst_ok ev
          rw [Bool.and_eq_true] at h
          exact Snd.of (eok_lst (sndL ihE _ _ h.1) (Nat.le_of_ble_eq_true h.2)) rfl
        · cases h
      · -- op
        split at h
        · rename_i o a b pa p pb ev
          obtain ⟨q, rfl⟩ := vBin_ok ev
          rw [Bool.and_eq_true, Bool.and_eq_true] at h
          obtain ⟨⟨h1, h2⟩, h3⟩ := h
          obtain ⟨r, r1, r2⟩ := bin_ok c.inn c.room (of_decide_eq_true h1)
          exact Snd.of (eok_op r1 r2 (ih h2).1 (ih h3).1) rfl
        · split at h
          · rename_i o a b _ pa p pb ev
            obtain ⟨q, rfl⟩ := vCmp_ok ev
            rw [Bool.and_eq_true, Bool.and_eq_true, Bool.and_eq_true] at h
            obtain ⟨⟨⟨h1, h2⟩, h3⟩, h4⟩ := h
            have h1 := of_decide_eq_true h1
            obtain ⟨r, r1, r2⟩ := cmp_ok c.inn c.room h1
            exact Snd.of2 (eok_cmp r1 r2 (ih h2).1 (ih h3).1 (noSet_mark h4) (cmp_notF h1)) (tok_cmp r1 r2 (ih h2).1 (ih h3).1 (noSet_mark h4)) rfl
          · cases h
      · -- neg
        split at h
        · rename_i a pa ev
          obtain ⟨q, rfl⟩ := vUn_ok ev
          exact Snd.of (eok_neg (ih h).1) rfl
        · cases h
      · -- not
        split at h
        · rename_i a pa ev
          obtain ⟨q, rfl⟩ := vUn_ok ev
          exact Snd.of2 (eok_not (ih h).1) (tok_not (ih h).2.1) rfl
        · cases h
      · -- and
        split at h
        · rename_i a b pa pb rest pos ev
          have := vBool_ok ev
          subst this
          rw [Bool.and_eq_true] at h
          have hb := ih h.2
          exact ⟨eok_and (ih h.1).1 hb.1, tok_and (ih h.1).2.1 (hb.2.2 _ _ _ rfl) |>.pt, fun _ _ _ _ => tok_and (ih h.1).2.1 (hb.2.2 _ _ _ rfl)⟩
        · cases h
      · -- or
        split at h
        · rename_i a b pa pb rest pos ev
          have := vBool_ok ev
          subst this
          rw [Bool.and_eq_true] at h
          have hb := ih h.2
          exact ⟨eok_or (ih h.1).1 hb.1, tok_or (ih h.1).2.1 (hb.2.2 _ _ _ rfl) |>.pt, fun _ _ _ _ => tok_or (ih h.1).2.1 (hb.2.2 _ _ _ rfl)⟩
        · cases h
      · -- ite
        split at h
        · rename_i a b d pc pa pb ev
          obtain ⟨q, rfl⟩ := vIf_ok ev
          rw [Bool.and_eq_true, Bool.and_eq_true] at h
          exact Snd.of2 (eok_ite (ih h.1.1).2.1 (ih h.1.2).1 (ih h.2).1) (tok_ite (ih h.1.1).2.1 (ih h.1.2).2.1 (ih h.2).2.1) rfl
        · cases h
      · -- chain
        split at h
        · rename_i o p a b d pa po pp pb pc ev
          obtain ⟨q, rfl⟩ := vCmp_ok ev
          simp only [Bool.and_eq_true] at h
          obtain ⟨⟨⟨⟨⟨⟨h1, h2⟩, h3⟩, h4⟩, h5⟩, h6⟩, h7⟩ := h
          obtain ⟨r, r1, r2⟩ := cmp_ok c.inn c.room (of_decide_eq_true h1)
          obtain ⟨r', r3, r4⟩ := cmp_ok c.inn c.room (of_decide_eq_true h2)
          have hm : lastMarks [po, pp] [pb, pc] = false := noSet_mark h7
          exact Snd.of2 (eok_chain r1 r2 r3 r4 (ih h3).1 (ih h4).1 (ih h5).1 hm) (tok_chain r1 r2 r3 r4 (ih h3).1 (ih h4).1 (ih h5).1 hm) rfl
        · cases h
      · -- call
        split at h
        · rename_i f es _ x ps ev
          obtain ⟨p, pos, rfl⟩ := vCall_ok ev
          simp only [Bool.and_eq_true] at h
          obtain ⟨⟨⟨h1, h2⟩, h3⟩, h4⟩ := h
          obtain ⟨g1, g2, g3, g4⟩ := L.call f x es.length (of_decide_eq_true h1)
          obtain ⟨s1, s2⟩ := chkL_st h4
          cases es with
          | nil =>
            cases ps with
            | nil => exact Snd.of (eok_call0 c.inn g1 g2 g3 c.room (c.gl h2) c.tk g4.symm (nmOk_ok h3).1) rfl
            | cons _ _ => cases h4
          | cons e es =>
            cases ps with
            | nil => cases h4
            | cons q qs =>
              have s1' := s1
              rw [List.all_cons, Bool.and_eq_true] at s1
              exact Snd.of (eok_call c.inn g1 g2 g3 c.room (c.gl h2) c.tk g4.symm (sndL ihE _ _ h4) (nmOk_ok h3).1 (star_cons s1.1) (star_any s1.2)) rfl
        · cases h
      · -- bi
        split at h
        · rename_i b es x ps ev
          obtain ⟨p, pos, rfl⟩ := vCall_ok ev
          rw [Bool.or_eq_true] at h
          rcases h with h | h
          · exact Snd.of (sndBi c L ihE h) rfl
          · exact Snd.of (sndDz c L ihE h) rfl
        · cases h
      · -- meth
        split at h
        · rename_i b a es o mn ps ln ev
          obtain ⟨ap, cp, rfl, hb⟩ := vMth_ok ev
          subst hb
          exact Snd.of (sndMt c ihE h) rfl
        · cases h
      · -- ix
        split at h
        · rename_i a i pa pi ev
          obtain ⟨p, rfl⟩ := vSub_ok ev
          rw [Bool.and_eq_true, Bool.and_eq_true] at h
          exact Snd.of (eok_ix c.inn.K (Nat.lt_of_le_of_lt (by omega) c.room.units) (ih h.1.2).1 (ih h.2).1 (noSl_ok h.1.1)) rfl
        · cases h
      · -- sl
        split at h
        · rename_i pa ps ev
          split at h
          · rename_i lo hi ev2
            obtain ⟨p, rfl⟩ := vSub_ok ev
            obtain ⟨p2, rfl⟩ := vSlice_ok ev2
            rw [Bool.and_eq_true] at h
            obtain ⟨h1, h2⟩ := h
            unfold chkSl at h2
            split at h2
            · exact Snd.of (eok_sl_lo c.inn.K (ih h1).1 (ih h2).1) rfl
            · exact Snd.of (eok_sl_hi c.inn.K (ih h1).1 (ih h2).1) rfl
            · rw [Bool.and_eq_true] at h2
              exact Snd.of (eok_sl_both c.inn.K (ih h1).1 (ih h2.1).1 (ih h2.2).1) rfl
            · cases h2
          · split at h
            · obtain ⟨p, rfl⟩ := vSub_ok ev
              rw [Bool.and_eq_true] at h
              obtain ⟨k, p1, p2, p3, rfl⟩ := vRev_ok h.1
              exact Snd.of (eok_sl_rev c.inn.K (ih h.2).1) rfl
            · cases h
        · cases h
      · -- comp
        split at h
        · rename_i e t k es cs _ elt tg iter ifs scope pos ev
          have := vComp_ok ev
          subst this
          simp only [Bool.and_eq_true] at h
          obtain ⟨⟨⟨⟨⟨h1, h2⟩, h3⟩, h4⟩, h5⟩, h6⟩ := h
          have hk := relS_kind h5
          have blk := blkB_ok h5
          refine Snd.of (eok_comp c.inn.K c.calm (by rw [c.eN]; exact c.nd) (sndIt c L ihE h3) (by rw [c.eN, c.eS]; exact blk) (ownOf_ix N _) (fun s H Cl cl fp => sndTg (c.blk hk s H Cl cl fp) t tg h2) (fun s H Cl cl fp => ?_) (fun s H Cl cl fp => (sndE L m _ _ _ _ e elt (c.blk hk s H Cl cl fp) h1).1) h6) rfl
          unfold chkC at h4
          split at h4
          · exact cok_nil
          · exact cok_one (sndE L m _ _ _ _ _ _ (c.blk hk s H Cl cl fp) h4).2.1
          · cases h4
        · cases h
      · -- fz
        rename_i is e
        obtain ⟨h1, h2, h3⟩ := ih h
        exact ⟨h1.imp fun σ H Q q => law_fz q, h2.imp fun σ H Q q => law_fzT q, fun op vs pos z => (h3 op vs pos z).imp fun σ H Q q => law_fzT q⟩
      · -- dic
        split at h
        · rename_i es ys _ ks vs ev
          obtain ⟨p, rfl⟩ := vDict_ok ev
          rw [Bool.and_eq_true, Bool.and_eq_true] at h
          obtain ⟨prs, rfl, hp, ha, hl⟩ := chkPs_ok ihE _ _ _ h.2
          exact Snd.of (eok_disp c.inn.K hp ha hl (fun z => by rw [z] at h; exact absurd h.1.1 (by decide)) (Nat.le_of_ble_eq_true h.1.2)) rfl
        · cases h
      · cases h
end
end Rz

/-! RzS16 -/
set_option Elab.async false
set_option linter.all false
set_option maxRecDepth 100000
set_option maxHeartbeats 4000000
namespace Rz
open PySem PySem.Spec PyProof.Rows L2

/-! ### stores exchanged, comprehensions stored -/
def noSD : Expr → Bool
  | .SetComp _ _ _ _ => false
  | .DictComp _ _ _ _ _ => false
  | _ => true
def swP (sc : Scope) (value tg : Expr) : Bool := match value with
  | .ListComp _ _ s vp => match tg with
    | .Name t tp => isK sc t .local && (tp.line == vp.line) && !(s.names.any fun (n, k) => n == t && (k == .local || k == .cell))
    | _ => false
  | _ => false
theorem isK_beq {sc : Scope} {env : PySem.Env} (he : env.scope = sc) (x : Str) (k : NameKind) : (env.kindOf x == some k) = isK sc x k := by
  show (env.scope.names.lookup x == some k) = decide (sc.names.lookup x = some k)
  rw [he]
  by_cases h : sc.names.lookup x = some k
  · rw [h]; simp
  · rw [decide_eq_false h]; simpa using h
theorem blockK {sc : Scope} {env : PySem.Env} (he : env.scope = sc) (hk : sc.kind = .function) : env.blockKind = .function := by
  unfold Env.blockKind
  rw [he, hk]; rfl
theorem swP_ok {sc : Scope} {env : PySem.Env} (he : env.scope = sc) (hk : sc.kind = .function) {value tg : Expr} {line : Nat} (h : noSD value = true) : swapsWith value (some tg) line env = pure (swP sc value tg) := by
  cases value with
  | ListComp elt gs s vp =>
    cases tg with
    | Name t tp =>
      show (pure (env.blockKind == .function && env.kindOf t == some .local && tp.line == vp.line && !(s.names.any fun (n, k) => n == t && (k == .local || k == .cell))) : Sem Bool) = pure _
      rw [blockK he hk, isK_beq he]
      rfl
    | _ => rfl
  | SetComp _ _ _ _ => cases h
  | DictComp _ _ _ _ _ => cases h
  | _ => rfl
def noComp : Expr → Bool
  | .SetComp _ _ _ _ => false
  | .DictComp _ _ _ _ _ => false
  | .ListComp _ _ _ _ => false
  | _ => true
theorem noComp_ok {env : PySem.Env} {value : Expr} {line : Nat} (h : noComp value = true) : swapsWith value none line env = pure false := by
  cases value <;> first | rfl | cases h
def isStar : Expr → Bool
  | .Starred .. => true
  | _ => false
def swLoc (sc : Scope) (line : Nat) : Expr → Option Str
  | .Name id pos => if isK sc id .local && pos.line == line then some id else none
  | _ => none
def swNames (sc : Scope) (ts vs : List Expr) : Option (Option (List Str)) :=
  if !(ts.length == 2 || ts.length == 3) || vs.length != ts.length then some none
  else if vs.any isStar then some none
  else if (ts.filterMap (swLoc sc ((ts.head?.map (·.pos.line)).getD 0))).length != ts.length || (ts.filterMap (swLoc sc ((ts.head?.map (·.pos.line)).getD 0))).eraseDups.length != (ts.filterMap (swLoc sc ((ts.head?.map (·.pos.line)).getD 0))).length then some none
  else if vs.all (foldedForSure 8) then some none
  else if vs.all (constantsAlone 8) then none
  else some (some (ts.filterMap (swLoc sc ((ts.head?.map (·.pos.line)).getD 0))))
def swAux (f : Expr → Bool) (g : Expr → Option Str) (ts vs : List Expr) (b : Bool) : Sem (Option (List Str)) := do
  if !(ts.length == 2 || ts.length == 3) || vs.length != ts.length || b then return none
  if vs.any f then return none
  let names := ts.filterMap g
  if names.length != ts.length || names.eraseDups.length != names.length then return none
  if vs.all (foldedForSure 8) then return none
  if vs.all (constantsAlone 8) then unsupported "assign.tuple-of-constant-expressions:order-of-the-stores"
  return some names
theorem swNames_ok {sc : Scope} {env : PySem.Env} (he : env.scope = sc) (hk : sc.kind = .function) {ts vs : List Expr} {k1 k2 : Nat} {p1 p2 : Pos} {r : Option (List Str)} (h : swNames sc ts vs = some r) : swappedStores [.Tuple ts k1 p1] (.Tuple vs k2 p2) env = pure r := by
  obtain ⟨f, g, hf, hg, hh⟩ : ∃ f g, (∀ x, f x = isStar x) ∧ (∀ x, g x = swLoc sc ((ts.head?.map (·.pos.line)).getD 0) x) ∧ swappedStores [.Tuple ts k1 p1] (.Tuple vs k2 p2) env = swAux f g ts vs (env.blockKind != .function) := by
    refine ⟨_, _, ?_, ?_, rfl⟩
    · intro x; cases x <;> rfl
    · intro x
      cases x with
      | Name id pos => show (if (env.kindOf id == some .local && _) = true then some id else none) = (if (isK sc id .local && _) = true then some id else none); rw [isK_beq he]
      | _ => rfl
  rw [hh, blockK he hk]
  have f1 : f = isStar := funext hf
  have g1 : g = swLoc sc ((ts.head?.map (·.pos.line)).getD 0) := funext hg
  subst f1 g1
  unfold swNames at h
  unfold swAux
  have e3 : ((ScopeKind.function : ScopeKind) != ScopeKind.function) = false := by decide
  rw [e3, Bool.or_false]
  dsimp only
  by_cases c1 : (!(ts.length == 2 || ts.length == 3) || vs.length != ts.length) = true
  · rw [if_pos c1] at h ⊢
    injection h with h; subst h; rfl
  · rw [if_neg c1] at h ⊢
    by_cases c2 : vs.any isStar = true
    · rw [if_pos c2] at h ⊢
      injection h with h; subst h; rfl
    · rw [if_neg c2] at h ⊢
      generalize ts.filterMap (swLoc sc ((ts.head?.map (·.pos.line)).getD 0)) = names at h ⊢
      by_cases c3 : (names.length != ts.length || names.eraseDups.length != names.length) = true
      · rw [if_pos c3] at h ⊢
        injection h with h; subst h; rfl
      · rw [if_neg c3] at h ⊢
        by_cases c4 : vs.all (foldedForSure 8) = true
        · rw [if_pos c4] at h ⊢
          injection h with h; subst h; rfl
        · rw [if_neg c4] at h ⊢
          by_cases c5 : vs.all (constantsAlone 8) = true
          · rw [if_pos c5] at h; cases h
          · rw [if_neg c5] at h ⊢
            injection h with h; subst h; rfl
def isTL : Expr → Bool
  | .Tuple _ _ _ => true
  | .List _ _ => true
  | _ => false
theorem sw_noT {env : PySem.Env} {tg value : Expr} (h : isTL tg = false) : swappedStores [tg] value env = pure none := by
  cases tg <;> first | rfl | cases h
theorem sw_noV {env : PySem.Env} {tg value : Expr} (h : isTL value = false) : swappedStores [tg] value env = pure none := by
  unfold swappedStores
  cases tg <;> first | rfl | (cases value <;> first | rfl | cases h)
end Rz

/-! RzX1 -/
set_option Elab.async false
set_option linter.all false
set_option maxRecDepth 100000
set_option maxHeartbeats 4000000
namespace Rz
open PySem PySem.Spec PyProof.Rows L2

/-! ### the check of statements -/
def vAsg : Stmt → Option (List Expr × Expr)
  | .Assign ts v _ => some (ts, v)
  | _ => none
theorem vAsg_ok {s : Stmt} {ts : List Expr} {v : Expr} (h : vAsg s = some (ts, v)) : ∃ p, s = .Assign ts v p := by
  cases s with
  | Assign a b p => injection h with h; injection h with h1 h2; subst h1 h2; exact ⟨p, rfl⟩
  | _ => cases h
def vExprS : Stmt → Option Expr
  | .Expr v _ => some v
  | _ => none
theorem vExprS_ok {s : Stmt} {v : Expr} (h : vExprS s = some v) : ∃ p, s = .Expr v p := by
  cases s with
  | Expr a p => injection h with h; subst h; exact ⟨p, rfl⟩
  | _ => cases h
def vIfS : Stmt → Option (Expr × List Stmt × List Stmt)
  | .If c a b _ => some (c, a, b)
  | _ => none
theorem vIfS_ok {s : Stmt} {c : Expr} {a b : List Stmt} (h : vIfS s = some (c, a, b)) : ∃ p, s = .If c a b p := by
  cases s with
  | If x y z p => injection h with h; injection h with h1 h; injection h with h2 h3; subst h1 h2 h3; exact ⟨p, rfl⟩
  | _ => cases h
def vFor : Stmt → Option (Expr × Expr × List Stmt)
  | .For t i b [] _ => some (t, i, b)
  | _ => none
theorem vFor_ok {s : Stmt} {t i : Expr} {b : List Stmt} (h : vFor s = some (t, i, b)) : ∃ p, s = .For t i b [] p := by
  unfold vFor at h
  split at h
  · injection h with h; injection h with h1 h; injection h with h2 h3; subst h1 h2 h3; exact ⟨_, rfl⟩
  · cases h
def vWhl : Stmt → Option (Expr × List Stmt)
  | .While c b [] _ => some (c, b)
  | _ => none
theorem vWhl_ok {s : Stmt} {c : Expr} {b : List Stmt} (h : vWhl s = some (c, b)) : ∃ p, s = .While c b [] p := by
  unfold vWhl at h
  split at h
  · injection h with h; injection h with h1 h2; subst h1 h2; exact ⟨_, rfl⟩
  · cases h
def vRet : Stmt → Option (Option Expr)
  | .Return v _ => some v
  | _ => none
theorem vRet_ok {s : Stmt} {v : Option Expr} (h : vRet s = some v) : ∃ p, s = .Return v p := by
  cases s with
  | Return a p => injection h with h; subst h; exact ⟨p, rfl⟩
  | _ => cases h
def vMeth : Expr → Option (Str × Str × Expr × Bool)
  | .Call (.Attribute (.Name x _) m ap) [a] [] cp => some (x, m, a, ap.endLine == cp.line)
  | _ => none
theorem vMeth_ok {e : Expr} {x m : Str} {a : Expr} {b : Bool} (h : vMeth e = some (x, m, a, b)) : ∃ np ap cp, e = .Call (.Attribute (.Name x np) m ap) [a] [] cp ∧ (ap.endLine == cp.line) = b := by
  unfold vMeth at h
  split at h
  · injection h with h; injection h with h1 h; injection h with h2 h; injection h with h3 h4; subst h1 h2 h3 h4; exact ⟨_, _, _, rfl, rfl⟩
  · cases h
def isPass : Stmt → Bool
  | .Pass _ => true
  | _ => false
def isBrk : Stmt → Bool
  | .Break _ => true
  | _ => false
def isCnt : Stmt → Bool
  | .Continue _ => true
  | _ => false
def strip : Ex → Ex
  | .fz _ e => strip e
  | e => e
def isCp : Ex → Bool
  | .comp _ _ _ _ _ => true
  | _ => false
def chkAsg (J : Tab) (N : List Str) (m : Nat) (sc : Scope) (i : Nat) (e : Ex) : List Expr → Expr → Bool
  | [tg], v => match vName tg with
    | some x => stB N sc none i x && noSD v && (if swP sc v tg then isCp (strip e) && chkE J N m sc none (strip e) v else chkE J N m sc none e v)
    | none => false
  | _, _ => false
def unpSw (sc : Scope) (tg v : Expr) : Bool := match vTup tg with
  | some ts => match vTup v with
    | some vs => decide (swNames sc ts vs = some none)
    | none => !isTL v
  | none => false
def namesOf : List Expr → List Str
  | [] => []
  | p :: ps => (vName p).getD "" :: namesOf ps
def chkNm (N : List Str) (sc : Scope) : List Nat → List Expr → Bool
  | [], [] => true
  | j :: js, p :: ps => (match vName p with
    | some x => unst p && stB N sc none j x
    | none => false) && chkNm N sc js ps
  | _, _ => false
def ownF (T : Nat → Option Fn) : List (Bool × Nat) → List Ex → Bool
  | t :: ts, e :: es => (!t.1 || isF T e) && ownF T ts es
  | _, _ => true
def chkPar (f : Ex → Expr → Bool) (T : Nat → Option Fn) (N : List Str) (sc : Scope) (ts : List (Bool × Nat)) (es : List Ex) (ps vs : List Expr) : Bool :=
  chkL f es vs && chkNm N sc (ts.map (·.2)) ps && decide ((ts.map (·.2)).Nodup) && decide (ts.length = es.length) && ownF T ts es && Nat.ble es.length 1000 &&
  (match swNames sc ps vs with
    | some none => true
    | some (some names) => decide (names = namesOf ps) && names.all fun x => isK sc x .local
    | none => false)
def chkSs (f : St → Stmt → Bool) : List St → List Stmt → Bool
  | [], [] => true
  | .frz _ :: ss, ps => chkSs f ss ps
  | s :: ss, p :: ps => f s p && chkSs f ss ps
  | _, _ => false

/-! ### raise and try -/
def vRaise : Stmt → Option Str
  | .Raise (some (.Call (.Name x _) [.Constant (.str _) _ _] [] _)) none _ => some x
  | _ => none
theorem vRaise_ok {s : Stmt} {x : Str} (h : vRaise s = some x) : ∃ m j p1 p2 p3 p4, s = .Raise (some (.Call (.Name x p1) [.Constant (.str m) j p2] [] p3)) none p4 := by
  unfold vRaise at h
  split at h
  · injection h with h; subst h; exact ⟨_, _, _, _, _, _, rfl⟩
  · cases h
def vTry : Stmt → Option (List Stmt × List ExceptHandler)
  | .Try b hs [] [] _ => some (b, hs)
  | _ => none
theorem vTry_ok {s : Stmt} {b : List Stmt} {hs : List ExceptHandler} (h : vTry s = some (b, hs)) : ∃ p, s = .Try b hs [] [] p := by
  unfold vTry at h
  split at h
  · injection h with h; injection h with h1 h2; subst h1 h2; exact ⟨_, rfl⟩
  · cases h
def vHd : ExceptHandler → Option (Str × Stmt × List Stmt)
  | .ExceptHandler (some (.Name x _)) none (b :: bs) _ => some (x, b, bs)
  | _ => none
theorem vHd_ok {s : ExceptHandler} {x : Str} {b : Stmt} {bs : List Stmt} (h : vHd s = some (x, b, bs)) : ∃ p q, s = .ExceptHandler (some (.Name x p)) none (b :: bs) q := by
  unfold vHd at h
  split at h
  · injection h with h; injection h with h1 h; injection h with h2 h3; subst h1 h2 h3; exact ⟨_, _, rfl⟩
  · cases h
def clsB (J : Tab) (sc : Scope) (c : Nat) (x : Str) : Bool := decide (J.cls.lookup c = some x) && gliB sc x && !(x == ("__debug__" : Str))
/-- what may stand in an except suite -/
def chkU (N : List Str) (fr : Bool) (sc : Scope) (s : St) (p : Stmt) : Bool := match s with
  | .pass => isPass p
  | .ret (.lit d) => match vRet p with
    | some (some v) => litB d v && !fr
    | _ => false
  | .app i (.lit d) => match vExprS p with
    | some v => match vMeth v with
      | some (x, a, q, b) => decide (a = ("append" : Str)) && nmB N sc i x && b && unst q && litB d q
      | none => false
    | none => false
  | .asg i (.op .add (.var j) (.lit d)) => match vAsg p with
    | some ([tg], v) => match vName tg with
      | some x => match vBin v with
        | some (a, .Add, b) => match vName a with
          | some y => stB N sc none i x && nmB N sc j y && litB d b
          | none => false
        | _ => false
      | none => false
    | _ => false
  | _ => false
def chkHds (J : Tab) (N : List Str) (fr : Bool) (sc : Scope) : List (Nat × Option Nat × List St) → List ExceptHandler → Bool
  | [], [] => true
  | h :: hs, p :: ps => (match vHd p with
    | some (x, b, bs) => clsB J sc h.1 x && decide (h.2.1 = none) && chkSs (chkU N fr sc) h.2.2 (b :: bs)
    | none => false) && chkHds J N fr sc hs ps
  | _, _ => false
section
variable {S : Inf} {J : Tab} {n : Nat} {N : List Str} {H0 Hs H H1 : Hp} {B0 Bs B B1 : Bad} {Γ0 Γs Γ Γ1 : List Addr} {W : WX} {fr : Bool} {C : Nat → List D → Gs → R D} {X : Cx} {Z : Ends} {σ : L2.St}
theorem st_ok {sc : Scope} {fs : Option Scope} {X : Cx} {W : WX} (c : Ctx S n N sc fs X W) {i : Nat} {x : Str} (h : stB N sc fs i x = true) : X.N[i]? = some x ∧ Loc X.env.scope x ∧ (X.fn x = true ∨ X.env.scope.names.lookup x = some .local) := by
  unfold stB at h
  rw [Bool.and_eq_true, Bool.or_eq_true, Bool.and_eq_true] at h
  refine ⟨by rw [c.eN]; exact of_decide_eq_true h.1, ?_, ?_⟩
  · rw [c.eS]; exact h.2.elim (fun z => .inl (isK_ok z)) fun z => .inr (isK_ok z.1)
  · rw [c.eS]; exact h.2.elim (fun z => .inr (isK_ok z)) fun z => .inl (c.fn x z.2)
theorem sndSs {X : Cx} {W : WX} {C : Nat → List D → Gs → R D} {f : St → Stmt → Bool} (hf : ∀ s p, f s p = true → PS X p (tS S H0 B0 Γ0 W fr C s)) : ∀ (ss : List St) (ps : List Stmt), chkSs f ss ps = true → PSs X ps (tSs S H0 B0 Γ0 W fr C ss)
  | [], [], _ => pss_nil.imp fun D σ H h => law_nil h
  | [], _ :: _, h => by cases h
  | s :: ss, ps, h => by
    by_cases hz : ∃ is, s = .frz is
    · obtain ⟨is, rfl⟩ := hz
      have h : chkSs f ss ps = true := by cases ps <;> exact h
      exact (sndSs hf ss ps h).imp fun D σ H h => law_frz h
    · cases ps with
      | nil => cases s <;> first | cases h | exact absurd ⟨_, rfl⟩ hz
      | cons p ps =>
        have h : (f s p && chkSs f ss ps) = true := by cases s <;> first | exact h | exact absurd ⟨_, rfl⟩ hz
        rw [Bool.and_eq_true] at h
        exact (pss_cons (hf s p h.1) (sndSs hf ss ps h.2)).imp fun D σ H h => law_cons h

theorem law_rai {c : Nat} (hc : (S.cls.lookup c).isSome = true) (h : tS S H0 B0 Γ0 W fr C (.rai c []) Z σ H) : W (.ref (S.cad c)) none σ H := by
  obtain ⟨env, g, B, Γ, ok0, sl, ce, s0, h⟩ := h
  exact h σ H B Γ (.ref (S.cad c)) none sl ce s0 .refl ⟨rfl, hc, rfl⟩
theorem clsB_ok {J : Tab} {sc : Scope} {c : Nat} {x : Str} (h : clsB J sc c x = true) : J.cls.lookup c = some x ∧ gliB sc x = true ∧ (x == ("__debug__" : Str)) = false := by
  unfold clsB at h
  rw [Bool.and_eq_true, Bool.and_eq_true] at h
  exact ⟨of_decide_eq_true h.1.1, h.1.2, by simpa using h.2⟩
theorem sndRai (L : Lnk S J n) {sc : Scope} (c : Ctx S n N sc none X W) {i : Nat} {p : Stmt} {x : Str} (ev : vRaise p = some x) (h : clsB J sc i x = true) : PS X p (tS S H0 B0 Γ0 W fr C (.rai i [])) := by
  obtain ⟨m, j, p1, p2, p3, p4, rfl⟩ := vRaise_ok ev
  obtain ⟨h1, h2, h3⟩ := clsB_ok h
  obtain ⟨e1, e2, e3, e4, e5⟩ := L.exc i x h1
  rw [← c.inn.K] at e2 e3 e4 e5
  rw [← c.inn.mg] at e1
  refine (ps_raise c.calm c.tk (pmk_own PySem.F.excBase_ValueError e2 e1 e3 (raises_own e4 e5) (c.gl h2) h3)).imp fun D σ H hh => law_rai (by rw [L.cls, h1]; rfl) hh
/-- the clauses: what each wishes -/
def hdL (S : Inf) (H0 : Hp) (B0 : Bad) (Γ0 : List Addr) (fr : Bool) (C : Nat → List D → Gs → R D) (hs : List (Nat × Option Nat × List St)) : List (Value × (Addr → Value → Option Addr → TS)) :=
  hs.map fun h => (.ref (S.cad h.1), fun _ _ _ => tSs S H0 B0 Γ0 WF0 fr C h.2.2)
theorem noX_ok {r : SR} (h : OutS S H0 B0 Γ0 W fr H B Γ r.noX Z) : OutS S H0 B0 Γ0 WF0 fr H B Γ r Z := by
  cases r with
  | exc c p env g => exact h.elim
  | _ => exact h
theorem wMany_of (L : Lnk S J n) {sc : Scope} {c : Nat} {p : D} {env' : Env} {g' : Gs} (ok0 : BadOk H0 B0 Γ0) : ∀ {hs : List (Nat × Option Nat × List St)} {ps : List ExceptHandler}, chkHds J N fr sc hs ps = true → OutS S H0 B0 Γ0 W fr H B Γ (evH C hs c p env' g') Z →
    ∀ σ' H' B' Γ' cls dd, Slots S H' B' Γ' H0 σ' env' → Cells S H' g' B' Γ' → Step H0 B0 Γ0 H' B' Γ' → Later H B Γ H' B' Γ' → ExR S H' B' Γ' c p cls dd → wMany S.K W Z (hdL S H0 B0 Γ0 fr C hs) cls dd σ' H'
  | [], _, _, h => fun σ' H' B' Γ' cls dd a b c d e => h σ' H' B' Γ' cls dd a b c d e
  | hd :: hs, [], hc, h => by cases hc
  | hd :: hs, q :: qs, hc, h => fun σ' H' B' Γ' cls dd sl ce st la ex => by
    have hc : ((match vHd q with
      | some (x, b, bs) => clsB J sc hd.1 x && decide (hd.2.1 = none) && chkSs (chkU N fr sc) hd.2.2 (b :: bs)
      | none => false) && chkHds J N fr sc hs qs) = true := hc
    rw [Bool.and_eq_true] at hc
    obtain ⟨hc, hr⟩ := hc
    cases ev : vHd q with
    | none => rw [ev] at hc; cases hc
    | some t =>
      obtain ⟨x, b, bs⟩ := t
      rw [ev] at hc
      have hc : (clsB J sc hd.1 x && decide (hd.2.1 = none) && chkSs (chkU N fr sc) hd.2.2 (b :: bs)) = true := hc
      rw [Bool.and_eq_true, Bool.and_eq_true] at hc
      obtain ⟨⟨h1, h2⟩, h3⟩ := hc
      have h2 := of_decide_eq_true h2
      obtain ⟨k1, _, _⟩ := clsB_ok h1
      obtain ⟨ec, eo, _⟩ := id ex
      rw [L.cls] at eo
      obtain ⟨y, k2⟩ := Option.isSome_iff_exists.mp eo
      have em := L.exm c y hd.1 x k2 k1
      have h : OutS S H0 B0 Γ0 W fr H B Γ (if (hd.1 == c || hd.1 == 0) = true then (match hd.2.1 with
        | none => (evSs C hd.2.2 env' g').noX
        | some i => ((evSs C hd.2.2 (setS env' i (.p p)) g').drop i).noX) else evH C hs c p env' g') Z := h
      rw [h2] at h
      refine ⟨exB c hd.1, by rw [ec]; exact em, fun hb a ha => ?_, fun hb => ?_⟩
      · have : (hd.1 == c || hd.1 == 0) = true := by
          unfold exB at hb
          rw [Bool.or_eq_true] at hb ⊢
          exact hb.imp (fun z => by rw [beq_iff_eq] at z ⊢; exact z.symm) id
        rw [if_pos this] at h
        exact ⟨env', g', B', Γ', ok0, sl, ce, st, noX_ok (OutS.mono la h)⟩
      · have : ¬ (hd.1 == c || hd.1 == 0) = true := fun z => by
          unfold exB at hb
          rw [Bool.or_eq_true] at z
          rw [Bool.or_eq_false_iff] at hb
          rcases z with z | z
          · rw [beq_iff_eq] at z
            rw [z] at hb
            simp at hb
          · rw [hb.2] at z; cases z
        rw [if_neg this] at h
        exact wMany_of L ok0 hr h σ' H' B' Γ' cls dd sl ce st la ex
theorem law_try (L : Lnk S J n) {sc : Scope} (i : In S X) {b : List St} {hs : List (Nat × Option Nat × List St)} {ps : List ExceptHandler} (hc : chkHds J N fr sc hs ps = true) (h : tS S H0 B0 Γ0 W fr C (.try_ b hs) Z σ H) :
    tSs S H0 B0 Γ0 (wMany X.K W Z (hdL S H0 B0 Γ0 fr C hs)) fr C b Z σ H := by
  obtain ⟨env, g, B, Γ, ok0, sl, ce, s0, h⟩ := h
  have h : OutS S H0 B0 Γ0 W fr H B Γ (match evSs C b env g with
    | .exc c p env' g' => evH C hs c p env' g'
    | r => r) Z := h
  refine ⟨env, g, B, Γ, ok0, sl, ce, s0, ?_⟩
  cases e : evSs C b env g with
  | exc c p env' g' =>
    rw [e] at h
    rw [i.K]
    exact wMany_of L ok0 hc h
  | nx env' g' => rw [e] at h; exact h
  | brk env' g' => rw [e] at h; exact h
  | cnt env' g' => rw [e] at h; exact h
  | ret d g' => rw [e] at h; exact h
  | no => rw [e] at h; exact h
/-- statements of an except suite -/
theorem sndU {sc : Scope} (c : Ctx S n N sc none X W) {a : Addr} {pn : List (Addr × Obj)} : ∀ (s : St) (p : Stmt), chkU N fr sc s p = true → PS (X.suite a pn) p (tS S H0 B0 Γ0 WF0 fr C s) := fun s p h => by
  unfold chkU at h
  split at h
  · cases p <;> first | exact ps_pass.imp fun D σ H hh => law_pass hh | cases h
  · split at h
    · rename_i v ev
      obtain ⟨pos, rfl⟩ := vRet_ok ev
      rw [Bool.and_eq_true] at h
      obtain ⟨v', h1, h2⟩ := litB_ok (S := S) (X := X.suite a pn) h.1
      refine (ps_ret (eok_lit h1 h2)).imp fun D σ H hh => law_ret (fun hf => ?_) hh
      have := h.2
      rw [hf] at this; cases this
    · cases h
  · split at h
    · rename_i v ev
      obtain ⟨pos, rfl⟩ := vExprS_ok ev
      split at h
      · rename_i x m q b em
        obtain ⟨np, ap, cp, rfl, hb⟩ := vMeth_ok em
        simp only [Bool.and_eq_true] at h
        obtain ⟨⟨⟨⟨h1, h2⟩, h3⟩, h4⟩, h5⟩ := h
        have h1 := of_decide_eq_true h1
        subst h1
        unfold nmB at h2
        rw [Bool.and_eq_true, Bool.and_eq_true] at h2
        obtain ⟨d1, d2⟩ := nmOk_ok h2.2
        have hv : PE (X.suite a pn) (.Name x np) (tVar _) := pe_var (X := X.suite a pn) (show X.N[_]? = some x by rw [c.eN]; exact of_decide_eq_true h2.1.1) (show Vis X.env.scope x by rw [c.eS]; exact visB_ok h2.1.2) d1 d2
        obtain ⟨v', g1, g2⟩ := litB_ok (S := S) (X := X.suite a pn) h5
        have ha : PA (X.suite a pn) [q] (tDs S H0 WF0 C [.lit _]) := aok_cons (eok_lit g1 g2) aok_nil (star_cons h4)
        refine (ps_expr (pe_bm PySem.F.plainAttrs_list PySem.F.slot_list_append PySem.F.type_list_append mt_append hv ha rfl (by rw [star_cons h4]; rfl) (hb.trans h3) (star_cons h4) rfl) rfl).imp fun D σ H hh => ?_
        have := law_app hh
        rw [← c.inn.K] at this
        exact this
      · cases h
    · cases h
  · split at h
    · rename_i tg v ev
      obtain ⟨pos, rfl⟩ := vAsg_ok ev
      split at h
      · rename_i x en
        obtain ⟨p, rfl⟩ := vName_ok en
        split at h
        · rename_i ea eb eb'
          obtain ⟨q, rfl⟩ := vBin_ok eb'
          split at h
          · rename_i y ey
            obtain ⟨r, rfl⟩ := vName_ok ey
            rw [Bool.and_eq_true, Bool.and_eq_true] at h
            obtain ⟨⟨h1, h2⟩, h3⟩ := h
            obtain ⟨a1, a2, a3⟩ := st_ok c h1
            unfold nmB at h2
            rw [Bool.and_eq_true, Bool.and_eq_true] at h2
            obtain ⟨d1, d2⟩ := nmOk_ok h2.2
            obtain ⟨v', g1, g2⟩ := litB_ok (S := S) (X := X.suite a pn) h3
            have hv : PE (X.suite a pn) (.Name y r) (tD S H0 WF0 C (.var _)) := eok_var (X := X.suite a pn) (show X.N[_]? = some y by rw [c.eN]; exact of_decide_eq_true h2.1.1) (show Vis X.env.scope y by rw [c.eS]; exact visB_ok h2.1.2) d1 d2
            have he := eok_op (X := X.suite a pn) (pos := q) (op_addR (X := X.suite a pn)) (show RO S (rAddR X.K) (op2 .add) by rw [c.inn.K]; exact ro_add) hv (eok_lit g1 g2)
            exact (ps_set (X := X.suite a pn) (show X.N.Nodup by rw [c.eN]; exact c.nd) a1 a2 he rfl a3).imp fun D σ H hh => law_asg hh
          · cases h
        · cases h
      · cases h
    · cases h
  · cases h
theorem sndHds (L : Lnk S J n) {sc : Scope} (c : Ctx S n N sc none X W) : ∀ (hs : List (Nat × Option Nat × List St)) (ps : List ExceptHandler), chkHds J N fr sc hs ps = true → HdsOk X ps (hdL S H0 B0 Γ0 fr C hs)
  | [], [], _ => .nil
  | [], _ :: _, h => by cases h
  | _ :: _, [], h => by cases h
  | hd :: hs, q :: qs, hc => by
    have hc : ((match vHd q with
      | some (x, b, bs) => clsB J sc hd.1 x && decide (hd.2.1 = none) && chkSs (chkU N fr sc) hd.2.2 (b :: bs)
      | none => false) && chkHds J N fr sc hs qs) = true := hc
    rw [Bool.and_eq_true] at hc
    obtain ⟨hc, hr⟩ := hc
    cases ev : vHd q with
    | none => rw [ev] at hc; cases hc
    | some t =>
      obtain ⟨x, b, bs⟩ := t
      rw [ev] at hc
      have hc : (clsB J sc hd.1 x && decide (hd.2.1 = none) && chkSs (chkU N fr sc) hd.2.2 (b :: bs)) = true := hc
      rw [Bool.and_eq_true, Bool.and_eq_true] at hc
      obtain ⟨⟨h1, h2⟩, h3⟩ := hc
      obtain ⟨p, r, rfl⟩ := vHd_ok ev
      obtain ⟨k1, k2, k3⟩ := clsB_ok h1
      obtain ⟨e1, _⟩ := L.exc hd.1 x k1
      rw [← c.inn.mg] at e1
      exact .cons ⟨c.gl k2, k3, .inl e1⟩ (fun a oe cls d pn _ _ => sndSs (fun s p h => sndU c s p h) _ _ h3) (sndHds L c hs qs hr)
end
end Rz

/-! RzS17 -/
set_option Elab.async false
set_option linter.all false
set_option maxRecDepth 100000
set_option maxHeartbeats 4000000
namespace Rz
open PySem PySem.Spec PyProof.Rows L2

/-! ### the check of statements, whole -/
def chkS (J : Tab) (N : List Str) (fr : Bool) (me : Nat) (sc : Scope) : Nat → St → Stmt → Bool
  | 0, _, _ => false
  | m + 1, s, p => match s with
    | .asg i e => match vAsg p with
      | some (ts, v) => chkAsg J N me sc i e ts v
      | none => false
    | .own i e => match vAsg p with
      | some (ts, v) => chkAsg J N me sc i e ts v && isF J.T e
      | none => false
    | .cel i e => match vAsg p with
      | some (ts, v) => chkAsg J N me sc i e ts v && isF J.T e
      | none => false
    | .asg2 i j e => match vAsg p with
      | some ([t1, t2], v) => chkNm N sc [i, j] [t1, t2] && chkE J N me sc none e v
      | _ => false
    | .unp t e => match vAsg p with
      | some ([tg], v) => noSD v && unpSw sc tg v && chkTg N sc none t tg && chkE J N me sc none e v
      | _ => false
    | .par ts es => match vAsg p with
      | some ([tg], v) => match vTup tg with
        | some ps => match vTup v with
          | some vs => chkPar (chkE J N me sc none) J.T N sc ts es ps vs
          | none => false
        | none => false
      | _ => false
    | .app i e => match vExprS p with
      | some v => match vMeth v with
        | some (x, a, q, b) => decide (a = ("append" : Str)) && nmB N sc i x && b && unst q && chkE J N me sc none e q
        | none => false
      | none => false
    | .setx i j e => match vAsg p with
      | some ([tg], v) => match vSub tg with
        | some (o, k) => match vName o with
          | some x => nmB N sc i x && noSl k && noSD v && chkE J N me sc none e v && chkE J N me sc none j k
          | none => false
        | none => false
      | _ => false
    | .ex e => match vExprS p with
      | some v => noComp v && chkE J N me sc none e v
      | none => false
    | .ite c a b => match vIfS p with
      | some (pc, pa, pb) => chkE J N me sc none c pc && chkSs (chkS J N fr me sc m) a pa && chkSs (chkS J N fr me sc m) b pb
      | none => false
    | .for_ t k es body => match vFor p with
      | some (tg, iter, pb) => chkIt (chkE J N me sc none) sc tg k es iter && chkTg N sc none t tg && chkSs (chkS J N fr me sc m) body pb && noSet iter
      | none => false
    | .whl c body => match vWhl p with
      | some (pc, pb) => chkE J N me sc none c pc && chkSs (chkS J N fr me sc m) body pb
      | none => false
    | .ret e => match vRet p with
      | some (some v) => chkE J N me sc none e v && (!fr || isF J.T e)
      | _ => false
    | .retN => match vRet p with
      | some none => true
      | _ => false
    | .rai c es => match es with
      | _ :: _ :: _ => true
      | [] => match vRaise p with
        | some x => clsB J sc c x
        | none => false
      | _ => false
    | .try_ b hs => match vTry p with
      | some (pb, ph :: phs) => chkSs (chkS J N fr me sc m) b pb && chkHds J N fr sc hs (ph :: phs)
      | _ => false
    | .pass => isPass p
    | .brk => isBrk p
    | .cnt => isCnt p
    | _ => false

section
variable {S : Inf} {J : Tab} {n : Nat} {N : List Str} {H0 : Hp} {B0 : Bad} {Γ0 : List Addr} {fr : Bool}
theorem strip_law {W : WX} {C : Nat → List D → Gs → R D} {σ : L2.St} {H : Hp} {Q : VK} : ∀ {e : Ex}, tD S H0 W C e σ H Q → tD S H0 W C (strip e) σ H Q
  | .fz is e, h => strip_law (e := e) (law_fz h)
  | .lit _, h => h
  | .var _, h => h
  | .glo _ _, h => h
  | .fnv _, h => h
  | .tup _, h => h
  | .lst _, h => h
  | .dic _ _, h => h
  | .op _ _ _, h => h
  | .neg _, h => h
  | .not _, h => h
  | .and_ _ _, h => h
  | .or_ _ _, h => h
  | .chain _ _ _ _ _, h => h
  | .chain3 _ _ _ _ _ _ _, h => h
  | .ite _ _ _, h => h
  | .call _ _, h => h
  | .bi _ _, h => h
  | .meth _ _ _, h => h
  | .ix _ _, h => h
  | .sl _ _ _, h => h
  | .comp _ _ _ _ _, h => h
  | .line _, h => h
structure CtxS (S : Inf) (n : Nat) (N : List Str) (sc : Scope) (X : Cx) (W : WX) : Prop extends Ctx S n N sc none X W where
  po : PassesOwn (model X.prog X.w) X.A X.env X.xe
  stk : X.stack = X.env :: X.outer
  frm : X.env.frame = some X.env.locals
theorem sole {tg v : Expr} {l : Nat} {env : PySem.Env} {b : Bool} (h : swapsWith v (some tg) l env = pure b) : swapsWithSole [tg] v l env = pure b := h
theorem sndAsg (L : Lnk S J n) {sc : Scope} {X : Cx} {W : WX} (c : CtxS S n N sc X W) {m i : Nat} {e : Ex} {ts : List Expr} {v : Expr} {pos : Pos} (h : chkAsg J N m sc i e ts v = true) : PS X (.Assign ts v pos) (tAsg (tD S H0 W (evF S.T n) e) (gName i)) := by
  unfold chkAsg at h
  split at h
  · rename_i tg v
    split at h
    · rename_i x ev
      obtain ⟨p, rfl⟩ := vName_ok ev
      rw [Bool.and_eq_true, Bool.and_eq_true] at h
      obtain ⟨⟨h1, h2⟩, h3⟩ := h
      obtain ⟨a1, a2, a3⟩ := st_ok c.toCtx h1
      have sw := fun l => swP_ok (line := l) c.eS c.kind (tg := .Name x p) h2
      cases hs : swP sc v (.Name x p) with
      | false =>
        rw [hs] at h3
        simp only [Bool.false_eq_true, if_false] at h3
        exact ps_set (by rw [c.eN]; exact c.nd) a1 a2 (sndE L m sc none X W e v c.toCtx h3).1 (by rw [sw, hs]) a3
      | true =>
        rw [hs] at h3
        simp only [if_true] at h3
        rw [Bool.and_eq_true] at h3
        obtain ⟨h4, h5⟩ := h3
        generalize hse : strip e = e' at h4 h5
        cases e' <;> try (cases h4; done)
        rename_i e1 t k es cs
        cases m with
        | zero => cases h5
        | succ m =>
          unfold chkE at h5
          split at h5
          · rename_i op p1 q evb
            have := vBool_ok evb
            subst this
            cases hs
          · dsimp only at h5
            split at h5
            · rename_i elt tg iter ifs scope q evc
              have := vComp_ok evc
              subst this
              simp only [Bool.and_eq_true] at h5
              obtain ⟨⟨⟨⟨⟨h1, h2⟩, h3⟩, h4⟩, h5⟩, h6⟩ := h5
              have hk := relS_kind h5
              have blk := blkB_ok h5
              have hl : X.env.scope.names.lookup x = some .local := by
                have hs : (isK sc x .local && (p.line == q.line) && _) = true := hs
                rw [Bool.and_eq_true, Bool.and_eq_true] at hs
                rw [c.eS]; exact isK_ok hs.1.1
              have his : PI X tg iter (tIt S H0 W (evF S.T n) k es) := sndIt c.toCtx L (fun e p h => (sndE L m sc none X W e p c.toCtx h).1) h3
              have hts : ∀ (s : Shared) (H : Hp) (Cl : Addr) (cl : List (Str × Addr)) (fp : List Addr), PTs (X.blk s H scope (compEnvC scope cl Cl X.env) fp) ifs (tCd S H0 WF0 (evF S.T n) cs) := fun s H Cl cl fp => by
                unfold chkC at h4
                split at h4
                · exact cok_nil
                · exact cok_one (sndE L m _ _ _ _ _ _ (c.blk hk s H Cl cl fp) h4).2.1
                · cases h4
              have hes : ∀ (s : Shared) (H : Hp) (Cl : Addr) (cl : List (Str × Addr)) (fp : List Addr), PE (X.blk s H scope (compEnvC scope cl Cl X.env) fp) elt (tD S H0 WF0 (evF S.T n) e1) := fun s H Cl cl fp => (sndE L m _ _ _ _ e1 elt (c.blk hk s H Cl cl fp) h1).1
              refine (ps_setLc c.calm (by rw [c.eN]; exact c.nd) a1 hl (by rw [sw, hs]) his (by rw [c.eN, c.eS]; exact blk) (fun s H Cl cl fp => sndTg (c.blk hk s H Cl cl fp) t tg h2) hts hes (noSet_ok h6)).imp fun D σ H hh => ?_
              have q := strip_law hh
              rw [hse] at q
              rw [ownOf_ix]
              exact lc_law q
            · cases h5
    · cases h
  · cases h
theorem sndNm {sc : Scope} {X : Cx} {W : WX} (c : CtxS S n N sc X W) : ∀ (js : List Nat) (ps : List Expr), chkNm N sc js ps = true → PGs X ps (gNames js) ∧ ps.all unst = true ∧ ps.length = js.length ∧ Paired (fun x j => X.N[j]? = some x) (namesOf ps) js
  | [], [], _ => ⟨pgs_nil, rfl, rfl, .nil⟩
  | [], _ :: _, h => by cases h
  | _ :: _, [], h => by cases h
  | j :: js, p :: ps, h => by
    have h : ((match vName p with | some x => unst p && stB N sc none j x | none => false) && chkNm N sc js ps) = true := h
    rw [Bool.and_eq_true] at h
    obtain ⟨h1, h2⟩ := h
    obtain ⟨q1, q2, q3, q4⟩ := sndNm c js ps h2
    cases ev : vName p with
    | none => rw [ev] at h1; cases h1
    | some x =>
      rw [ev] at h1
      have h1 : (unst p && stB N sc none j x) = true := h1
      rw [Bool.and_eq_true] at h1
      obtain ⟨a1, a2, a3⟩ := st_ok c.toCtx h1.2
      obtain ⟨pp, rfl⟩ := vName_ok ev
      refine ⟨pgs_cons (pg_name (by rw [c.eN]; exact c.nd) a1 a2 a3) q1 (by rw [assign_cons rfl]; rfl), by rw [List.all_cons, q2]; rfl, by rw [List.length_cons, List.length_cons, q3], ?_⟩
      exact .cons a1 q4
theorem sndAs {W : WX} {X : Cx} {C : Nat → List D → Gs → R D} {f : Ex → Expr → Bool} (hf : ∀ e p, f e p = true → PE X p (tD S H0 W C e)) : ∀ (es : List Ex) (ps : List Expr), chkL f es ps = true → PA X ps (tAs S H0 W C es)
  | [], [], _ => pa_nil
  | [], _ :: _, h => by cases h
  | _ :: _, [], h => by cases h
  | e :: es, p :: ps, h => by
    have h : (unst p && f e p && chkL f es ps) = true := h
    rw [Bool.and_eq_true, Bool.and_eq_true] at h
    exact pa_cons (hf e p h.1.2) (sndAs hf es ps h.2) (star_cons h.1.1)
theorem ownF_ok {T : Nat → Option Fn} : ∀ (ts : List (Bool × Nat)) (es : List Ex), ownF T ts es = true → ∀ (k : Nat) (e : Ex), (ts.map (·.1))[k]? = some true → es[k]? = some e → isF T e = true
  | [], es, _, k, e, h1, _ => by simp at h1
  | _ :: _, [], _, k, e, _, h2 => by simp at h2
  | t :: ts, x :: es, h, k, e, h1, h2 => by
    have h : ((!t.1 || isF T x) && ownF T ts es) = true := h
    rw [Bool.and_eq_true] at h
    cases k with
    | zero =>
      simp at h1 h2
      subst h2
      have := h.1
      rw [h1] at this
      simpa using this
    | succ k => exact ownF_ok ts es h.2 k e (by simpa using h1) (by simpa using h2)
theorem sndPar (L : Lnk S J n) {sc : Scope} {X : Cx} {W : WX} (c : CtxS S n N sc X W) {f : Ex → Expr → Bool} (hf : ∀ e p, f e p = true → PE X p (tD S H0 W (evF S.T n) e)) {ts : List (Bool × Nat)} {es : List Ex} {ps vs : List Expr} {k1 k2 : Nat} {p1 p2 pos : Pos}
    (h : chkPar f J.T N sc ts es ps vs = true) : PS X (.Assign [.Tuple ps k1 p1] (.Tuple vs k2 p2) pos) (tS S H0 B0 Γ0 W fr (evF S.T n) (.par ts es)) := by
  unfold chkPar at h
  simp only [Bool.and_eq_true] at h
  obtain ⟨⟨⟨⟨⟨⟨h1, h2⟩, h3⟩, h4⟩, h5⟩, h6⟩, h7⟩ := h
  obtain ⟨q1, q2, q3, q4⟩ := sndNm c _ _ h2
  have hnd := of_decide_eq_true h3
  have hl := of_decide_eq_true h4
  rw [← L.T] at h5
  have hof := ownF_ok ts es h5
  have hz := Nat.le_of_ble_eq_true h6
  have hs : swapsWithSole [.Tuple ps k1 p1] (.Tuple vs k2 p2) pos.line X.env = pure false := rfl
  cases es2 : swNames sc ps vs with
  | none => rw [es2] at h7; cases h7
  | some r =>
    rw [es2] at h7
    have hw := swNames_ok (k1 := k1) (k2 := k2) (p1 := p1) (p2 := p2) c.eS c.kind es2
    cases r with
    | none => exact (ps_parB c.calm hnd q1 (by rw [assign_len q2, q3]) (assign_nost q2) (sndAs hf es vs h1) hw hs (by rw [assign_cons rfl]; rfl)).imp fun D σ H hh => law_par hnd hl hof hz hh
    | some names =>
      have h7 : (decide (names = namesOf ps) && names.all fun x => isK sc x .local) = true := h7
      rw [Bool.and_eq_true, List.all_eq_true] at h7
      have hn := of_decide_eq_true h7.1
      subst hn
      exact (ps_parA c.calm (by rw [c.eN]; exact c.nd) q4 hnd (fun x hx => by rw [c.eS]; exact isK_ok (h7.2 x hx)) (sndAs hf es vs h1) hw hs).imp fun D σ H hh => law_par hnd hl hof hz hh
theorem swP_sub {sc : Scope} {v o k : Expr} {p : Pos} : swP sc v (.Subscript o k p) = false := by
  cases v <;> rfl
theorem swP_tup {sc : Scope} {v : Expr} {es : List Expr} {k : Nat} {p : Pos} : swP sc v (.Tuple es k p) = false := by
  cases v <;> rfl
theorem sndS (L : Lnk S J n) (me : Nat) {sc : Scope} {X : Cx} {W : WX} (c : CtxS S n N sc X W) : ∀ (m : Nat) (s : St) (p : Stmt), chkS J N fr me sc m s p = true → PS X p (tS S H0 B0 Γ0 W fr (evF S.T n) s)
  | 0, s, p, h => by cases h
  | m + 1, s, p, h => by
    have ihE : ∀ e p, chkE J N me sc none e p = true → PE X p (tD S H0 W (evF S.T n) e) := fun e p h => (sndE L me sc none X W e p c.toCtx h).1
    have ihT : ∀ e p, chkE J N me sc none e p = true → PT X p (tDT S H0 W (evF S.T n) e) := fun e p h => (sndE L me sc none X W e p c.toCtx h).2.1
    have ihS : ∀ ss ps, chkSs (chkS J N fr me sc m) ss ps = true → PSs X ps (tSs S H0 B0 Γ0 W fr (evF S.T n) ss) := fun ss ps h => sndSs (fun s p h => sndS L me c m s p h) ss ps h
    have hN : X.N.Nodup := by rw [c.eN]; exact c.nd
    have sT : ∀ {e : Ex}, isF J.T e = true → isF S.T e = true := fun {e} h => by rw [L.T]; exact h
    unfold chkS at h
    split at h
    · -- asg
      split at h
      · rename_i ts v ev
        obtain ⟨pos, rfl⟩ := vAsg_ok ev
        exact (sndAsg L c h).imp fun D σ H hh => law_asg hh
      · cases h
    · -- own
      split at h
      · rename_i ts v ev
        obtain ⟨pos, rfl⟩ := vAsg_ok ev
        rw [Bool.and_eq_true] at h
        exact (sndAsg L c h.1).imp fun D σ H hh => law_own (sT h.2) hh
      · cases h
    · -- cel
      split at h
      · rename_i ts v ev
        obtain ⟨pos, rfl⟩ := vAsg_ok ev
        rw [Bool.and_eq_true] at h
        exact (sndAsg L c h.1).imp fun D σ H hh => law_cel (sT h.2) hh
      · cases h
    · -- asg2
      split at h
      · rename_i i j e _ t1 t2 v ev
        obtain ⟨pos, rfl⟩ := vAsg_ok ev
        rw [Bool.and_eq_true] at h
        have h1 : ((match vName t1 with | some x => unst t1 && stB N sc none i x | none => false) && ((match vName t2 with | some x => unst t2 && stB N sc none j x | none => false) && true)) = true := h.1
        rw [Bool.and_true, Bool.and_eq_true] at h1
        obtain ⟨h1, h2⟩ := h1
        cases ev1 : vName t1 with
        | none => rw [ev1] at h1; cases h1
        | some x =>
          cases ev2 : vName t2 with
          | none => rw [ev2] at h2; cases h2
          | some y =>
            rw [ev1] at h1; rw [ev2] at h2
            have h1 : (unst t1 && stB N sc none i x) = true := h1
            have h2 : (unst t2 && stB N sc none j y) = true := h2
            rw [Bool.and_eq_true] at h1 h2
            obtain ⟨a1, a2, a3⟩ := st_ok c.toCtx h1.2
            obtain ⟨b1, b2, b3⟩ := st_ok c.toCtx h2.2
            obtain ⟨p1, rfl⟩ := vName_ok ev1
            obtain ⟨p2, rfl⟩ := vName_ok ev2
            exact (ps_asg2 (ihE _ _ h.2) (pg_name hN a1 a2 a3) (pg_name hN b1 b2 b3) rfl rfl).imp fun D σ H hh => law_asg2 hh
      · cases h
    · -- unp
      split at h
      · rename_i t e _ tg v ev
        obtain ⟨pos, rfl⟩ := vAsg_ok ev
        simp only [Bool.and_eq_true] at h
        obtain ⟨⟨⟨h1, h2⟩, h3⟩, h4⟩ := h
        unfold unpSw at h2
        cases et : vTup tg with
        | none => rw [et] at h2; cases h2
        | some ps =>
          rw [et] at h2
          obtain ⟨k1, p1, rfl⟩ := vTup_ok et
          have hs : swapsWithSole [.Tuple ps k1 p1] v pos.line X.env = pure false := sole (by rw [swP_ok c.eS c.kind h1, swP_tup])
          have hw : swappedStores [.Tuple ps k1 p1] v X.env = pure none := by
            cases evt : vTup v with
            | none =>
              rw [evt] at h2
              exact sw_noV (by simpa using h2)
            | some vs =>
              rw [evt] at h2
              obtain ⟨k2, p2, rfl⟩ := vTup_ok evt
              exact swNames_ok c.eS c.kind (of_decide_eq_true h2)
          exact (ps_asg (ihE _ _ h4) (sndTg c.toCtx t _ h3) hs hw (by rw [assign_cons rfl]; rfl)).imp fun D σ H hh => law_unp hh
      · cases h
    · -- par
      split at h
      · rename_i ts es _ tg v ev
        obtain ⟨pos, rfl⟩ := vAsg_ok ev
        split at h
        · rename_i ps et
          obtain ⟨k1, p1, rfl⟩ := vTup_ok et
          split at h
          · rename_i vs evt
            obtain ⟨k2, p2, rfl⟩ := vTup_ok evt
            exact sndPar L c ihE h
          · cases h
        · cases h
      · cases h
    · -- app
      split at h
      · rename_i i e _ v ev
        obtain ⟨pos, rfl⟩ := vExprS_ok ev
        split at h
        · rename_i x a q b em
          obtain ⟨np, ap, cp, rfl, hb⟩ := vMeth_ok em
          simp only [Bool.and_eq_true] at h
          obtain ⟨⟨⟨⟨h1, h2⟩, h3⟩, h4⟩, h5⟩ := h
          have h1 := of_decide_eq_true h1
          subst h1
          unfold nmB at h2
          rw [Bool.and_eq_true, Bool.and_eq_true] at h2
          obtain ⟨d1, d2⟩ := nmOk_ok h2.2
          have hv : PE X (.Name x np) (tVar i) := pe_var (by rw [c.eN]; exact of_decide_eq_true h2.1.1) (by rw [c.eS]; exact visB_ok h2.1.2) d1 d2
          have ha : PA X [q] (tDs S H0 W (evF S.T n) [e]) := aok_cons (ihE _ _ h5) aok_nil (star_cons h4)
          refine (ps_expr (pe_bm PySem.F.plainAttrs_list PySem.F.slot_list_append PySem.F.type_list_append mt_append hv ha rfl (by rw [star_cons h4]; rfl) (hb.trans h3) (star_cons h4) rfl) rfl).imp fun D σ H hh => ?_
          have := law_app hh
          rw [← c.inn.K] at this
          exact this
        · cases h
      · cases h
    · -- setx
      split at h
      · rename_i i j e _ tg v ev
        obtain ⟨pos, rfl⟩ := vAsg_ok ev
        split at h
        · rename_i o k es
          obtain ⟨p1, rfl⟩ := vSub_ok es
          split at h
          · rename_i x en
            obtain ⟨p2, rfl⟩ := vName_ok en
            simp only [Bool.and_eq_true] at h
            obtain ⟨⟨⟨⟨h1, h2⟩, h3⟩, h4⟩, h5⟩ := h
            unfold nmB at h1
            rw [Bool.and_eq_true, Bool.and_eq_true] at h1
            obtain ⟨d1, d2⟩ := nmOk_ok h1.2
            have hv : PE X (.Name x p2) (tVar i) := pe_var (by rw [c.eN]; exact of_decide_eq_true h1.1.1) (by rw [c.eS]; exact visB_ok h1.1.2) d1 d2
            have hs : swapsWithSole [.Subscript (.Name x p2) k p1] v pos.line X.env = pure false := sole (by rw [swP_ok c.eS c.kind h3, swP_sub])
            refine (ps_asg (ihE _ _ h4) (pg_sub hv (ihE _ _ h5) (set_R (Nat.lt_of_le_of_lt (by omega) c.room.units)) (fun w => ?_)) hs rfl rfl).imp fun D σ H hh => law_setx hh
            cases k <;> first | rfl | cases h2
          · cases h
        · cases h
      · cases h
    · -- ex
      split at h
      · rename_i e _ v ev
        obtain ⟨pos, rfl⟩ := vExprS_ok ev
        rw [Bool.and_eq_true] at h
        exact (ps_expr (ihE _ _ h.2) (noComp_ok h.1)).imp fun D σ H hh => law_ex hh
      · cases h
    · -- ite
      split at h
      · rename_i e a b _ pc pa pb ev
        obtain ⟨pos, rfl⟩ := vIfS_ok ev
        rw [Bool.and_eq_true, Bool.and_eq_true] at h
        exact (ps_if (ihT _ _ h.1.1) (ihS _ _ h.1.2) (ihS _ _ h.2)).imp fun D σ H hh => law_ite hh
      · cases h
    · -- for
      split at h
      · rename_i t k es body _ tg iter pb ev
        obtain ⟨pos, rfl⟩ := vFor_ok ev
        simp only [Bool.and_eq_true] at h
        obtain ⟨⟨⟨h1, h2⟩, h3⟩, h4⟩ := h
        exact (ps_for c.po c.calm (sndIt c.toCtx L ihE h1) (sndTg c.toCtx t tg h2) (ihS _ _ h3) (noSet_ok h4)).imp fun D σ H hh => law_for hh
      · cases h
    · -- while
      split at h
      · rename_i e body _ pc pb ev
        obtain ⟨pos, rfl⟩ := vWhl_ok ev
        rw [Bool.and_eq_true] at h
        exact (ps_while c.po (ihT _ _ h.1) (ihS _ _ h.2)).imp fun D σ H hh => law_whl hh
      · cases h
    · -- ret
      split at h
      · rename_i e _ v ev
        obtain ⟨pos, rfl⟩ := vRet_ok ev
        rw [Bool.and_eq_true] at h
        refine (ps_ret (ihE _ _ h.1)).imp fun D σ H hh => law_ret (fun hf => ?_) hh
        have := h.2
        rw [hf] at this
        exact sT (by simpa using this)
      · cases h
    · -- retN
      split at h
      · rename_i _ ev
        obtain ⟨pos, rfl⟩ := vRet_ok ev
        exact ps_retN.imp fun D σ H hh => law_retN hh
      · cases h
    · -- raise
      split at h
      · exact ps_never.imp fun D σ H hh => law_never hh
      · split at h
        · rename_i x ev
          exact sndRai L c.toCtx ev h
        · cases h
      · cases h
    · -- try
      split at h
      · rename_i pb ph phs ev
        obtain ⟨pos, rfl⟩ := vTry_ok ev
        rw [Bool.and_eq_true] at h
        refine (ps_try_many (tb := fun W' => tSs S H0 B0 Γ0 W' fr (evF S.T n) _) c.stk c.frm c.tk (fun W' pn xe tk po => ?_) (sndHds L c.toCtx _ _ h.2)).imp fun D σ H hh => law_try L c.inn h.2 hh
        have c' : CtxS S n N sc (X.tr pn xe) W' :=
          { inn := ⟨c.inn.P, c.inn.w, c.inn.K, c.inn.mg, c.inn.base⟩, eN := c.eN, eS := c.eS, calm := c.calm, nd := c.nd, room := c.room, tk := tk, kind := c.kind, fn := c.fn, po := po, stk := c.stk, frm := c.frm }
        exact sndSs (fun s p h => sndS L me c' m s p h) _ _ h.1
      · cases h
    · cases p <;> first | exact ps_pass.imp fun D σ H hh => law_pass hh | cases h
    · cases p <;> first | exact ps_break.imp fun D σ H hh => law_brk hh | cases h
    · cases p <;> first | exact ps_continue.imp fun D σ H hh => law_cnt hh | cases h
    · cases h
end
end Rz

/-! RzS18 -/
set_option Elab.async false
set_option linter.all false
set_option maxRecDepth 100000
set_option maxHeartbeats 4000000
namespace Rz
open PySem PySem.Spec PyProof.Rows L2

/-! ### a def keeps its promise -/
def scB (N P : List Str) (sc : Scope) : Bool :=
  decide (sc.kind = .function) && !sc.isCoroutine && !sc.isGenerator && decide N.Nodup && decide (N.take P.length = P) && (P.all fun x => isK sc x .local || isK sc x .cell) && (sc.names.all fun y => !(decide (y.2 = .free)))
theorem scB_ok {N P : List Str} {sc : Scope} (h : scB N P sc = true) : FnScope N P sc := by
  unfold scB at h
  simp only [Bool.and_eq_true, List.all_eq_true] at h
  obtain ⟨⟨⟨⟨⟨⟨h1, h2⟩, h3⟩, h4⟩, h5⟩, h6⟩, h7⟩ := h
  refine ⟨of_decide_eq_true h1, by simpa using h2, by simpa using h3, of_decide_eq_true h4, of_decide_eq_true h5, fun x hx => ?_, fun y hy e => ?_⟩
  · have := h6 x hx
    rw [Bool.or_eq_true] at this
    exact this.imp isK_ok isK_ok
  · have := h7 y hy
    rw [e] at this
    simp at this
def chkF (J : Tab) (me : Nat) (P N : List Str) (F : Fn) (sc : Scope) (body : List Stmt) : Bool :=
  scB N P sc && decide (P.length = F.np) && decide (N.length = F.nl) && chkSs (chkS J N F.fr me sc me) F.body body
section
variable {S : Inf} {J : Tab}
theorem slots_entry {H : Hp} {B : Bad} {Γ : List Addr} {F : Fn} {N : List Str} {vs : List V} {ds : List D} (r : Reps S H B Γ vs ds) (hN : N.length = F.nl) : Slots S H B Γ H (start N vs) (entry F ds) := by
  have g1 : ∀ (ds : List D) (k i : Nat), getS (ds.map Sl.p ++ List.replicate k Sl.u) i = match ds[i]? with | some d => .p d | none => .u := fun ds => by
    induction ds with
    | nil =>
      intro k
      induction k with
      | zero => intro i; simp [getS]
      | succ k ih => intro i; cases i with
        | zero => simp [getS, List.replicate_succ]
        | succ i => have := ih i; simpa [getS, List.replicate_succ] using this
    | cons d ds ih =>
      intro k i
      cases i with
      | zero => simp [getS]
      | succ i => have := ih k i; simpa [getS] using this
  refine ⟨?_, fun i => ?_, fun i j a _ hi => ?_⟩
  · unfold L2.start entry
    rw [List.length_append, List.length_append, List.length_map, List.length_map, List.length_replicate, List.length_replicate, r.length, hN]
  · unfold entry
    rw [g1]
    cases e : ds[i]? with
    | none => trivial
    | some d =>
      obtain ⟨v, e1, q⟩ := r.get e
      refine ⟨v, ?_, q⟩
      unfold L2.start
      rw [List.getElem?_append_left (by rw [List.length_map]; exact (List.getElem?_eq_some_iff.mp e1).1), List.getElem?_map, e1]
      rfl
  · unfold entry at hi
    rw [g1] at hi
    cases e : ds[i]? with
    | none => rw [e] at hi; exact hi.elim
    | some d => rw [e] at hi; exact hi.elim
theorem def_zero (f : Nat) : Def S 0 f := ⟨⟨fun vs H Q E ⟨ds, g, B, Γ, hl, r, _⟩ => by rw [r.length]; exact hl, fun A outer s H args us vs Q E hr he hb hv ⟨ds, g, B, Γ, hl, r, ce, h⟩ => h.elim⟩⟩
theorem def_succ {n f me : Nat} {x qual : Str} {params : Arguments} {body : List Stmt} {scope : Scope} {dvs : List V} {kws : List (Str × V)} {F : Fn} {N : List Str} (L : Lnk S J n) (FD : FunD S.K x qual params body scope dvs kws (S.fad f) (S.fd f)) (hT : S.T f = some F)
    (h : chkF J me (S.ps f) N F scope body = true) : Def S (n + 1) f := by
  unfold chkF at h
  simp only [Bool.and_eq_true] at h
  obtain ⟨⟨⟨h1, h2⟩, h3⟩, h4⟩ := h
  have sc := scB_ok h1
  have h2 := of_decide_eq_true h2
  have h3 := of_decide_eq_true h3
  refine ⟨FD.ok sc (fun vs H Q E ⟨ds, g, B, Γ, hl, r, _⟩ => by rw [r.length]; exact hl) fun cdv A outer s H vs Q E hr ⟨ds, g, B, Γ, hl, r, ce, h⟩ => ?_⟩
  have cx : CtxS S n N scope (cxOf (L2.CX S.P S.w) S.P S.w S.K S.mg S.base N qual scope (S.fad f) cdv A outer s H E) (fun cls d _ H => E cls d H) :=
    { inn := ⟨rfl, rfl, rfl, rfl, rfl⟩, eN := rfl, eS := rfl, calm := rfl, nd := sc.nd, room := hr, tk := takes_of rfl rfl rfl rfl, kind := sc.kind, fn := fun _ _ => rfl, po := passes_of rfl, stk := rfl, frm := rfl }
  refine ⟨tSs S H B Γ (fun cls d _ H => E cls d H) F.fr (evF S.T n) F.body, sndSs (fun st p q => sndS L me cx me st p q) _ _ h4, entry F ds, g, B, Γ, ce.ok, slots_entry r h3, ce, .refl, ?_⟩
  have hfr : frOf S.T f = F.fr := by unfold frOf; rw [hT]
  have h : Out S [] (fun cls dd _ H => E cls dd H) H B Γ (match S.T f with | some F => runF (evF S.T n) F ds g | none => .no) _ := h
  rw [hT, hfr] at h
  have hb : (ds.length == F.np) = true := by rw [hl, h2]; simp
  have h : Out S [] (fun cls dd _ H => E cls dd H) H B Γ (if (ds.length == F.np) = true then outR (evSs (evF S.T n) F.body (entry F ds) g) else .no) _ := h
  rw [if_pos hb] at h
  cases e : evSs (evF S.T n) F.body (entry F ds) g with
  | nx env' g' => rw [e] at h; exact fun σ' H' B' Γ' sl c s l => h H' B' Γ' c s .non .non fun _ => trivial
  | brk env' g' => rw [e] at h; exact h.elim
  | cnt env' g' => rw [e] at h; exact h.elim
  | ret d g' => rw [e] at h; exact fun H' B' Γ' v c s r f => h H' B' Γ' c s v r f
  | exc c p env' g' => rw [e] at h; exact fun σ' H' B' Γ' cls dd sl c s l x => h H' B' Γ' cls dd c s x
  | no => rw [e] at h; exact h.elim
/-- what a row gives for the defs that are told of -/
structure Facts (S : Inf) (J : Tab) : Prop where
  T : S.T = J.T
  fun_ : ∀ f x k, J.nam f = some (x, k) → Nm S f ∧ S.nam f = x ∧ (S.ps f).length = k ∧ ∃ (F : Fn) (me : Nat) (N : List Str) (qual : Str) (params : Arguments) (body : List Stmt) (scope : Scope) (dvs : List V) (kws : List (Str × V)),
    S.T f = some F ∧ FunD S.K x qual params body scope dvs kws (S.fad f) (S.fd f) ∧ chkF J me (S.ps f) N F scope body = true
  glo : ∀ x d, (x, d) ∈ J.glo → ∃ v u, S.mg (sOf x) = some u ∧ RelV v u ∧ ∀ H B Γ, Rep S H B Γ v d
  blt : ∀ x, x ∈ blts → S.mg x = none
  cls : S.cls = J.cls
  exc : ∀ c x, J.cls.lookup c = some x → S.mg x = some (.ref (S.cad c)) ∧ PySem.W.excIn S.K (S.cad c) He.veBase "ValueError.__new__" = true ∧ PySem.W.keepIn S.K (.ref (S.cad c)) = true ∧ PySem.W.subIn S.K (.ref (S.cad c)) (.type "BaseException") = some true ∧ PySem.W.typeIn S.K (.ref (S.cad c)) = some (.type "type")
  exm : ∀ c x d y, J.cls.lookup c = some x → J.cls.lookup d = some y → PySem.W.exmOne S.K (.ref (S.cad c)) (.ref (S.cad d)) = some (exB c d)
theorem Facts.lnk (c : Facts S J) : ∀ n, Lnk S J n
  | 0 => ⟨c.T, fun f x k h => let ⟨a, b, d, _⟩ := c.fun_ f x k h; ⟨def_zero f, a, b, d⟩, c.glo, c.blt, c.cls, c.exc, c.exm⟩
  | n + 1 => ⟨c.T, fun f x k h => let ⟨a, b, d, F, me, N, q, ps, body, scope, dvs, kws, e1, e2, e3⟩ := c.fun_ f x k h; ⟨def_succ (Facts.lnk c n) e2 e1 e3, a, b, d⟩, c.glo, c.blt, c.cls, c.exc, c.exm⟩
end
end Rz

/-! RzS19 -/
set_option Elab.async false
set_option linter.all false
set_option maxRecDepth 100000
set_option maxHeartbeats 4000000
namespace Rz
open PySem PySem.Spec PyProof.Rows L2

/-! ### constants of the top -/
mutual
theorem repB_ok {K : PySem.W.Frag} : ∀ (d : D) (u : Value), repB K d u = true → ∃ v, RelV v u ∧ ∀ S : Inf, S.K = K → ∀ H B Γ, Rep S H B Γ v d
  | .non, u, h => by cases u <;> first | exact ⟨.non, rfl, fun _ _ _ _ _ => .non⟩ | cases h
  | .bl b, u, h => by
    cases u with
    | bool c => have h : (b == c) = true := h; have : b = c := by simpa using h
                subst this; exact ⟨.bl b, rfl, fun _ _ _ _ _ => .bl b⟩
    | _ => cases h
  | .int i, u, h => by
    cases u with
    | int j t => have h : i = j := of_decide_eq_true h
                 subst h; exact ⟨.int i, ⟨t, rfl⟩, fun _ _ _ _ _ => .int i⟩
    | _ => cases h
  | .str s, u, h => by
    cases u with
    | str x t => have h : sOf s = x := of_decide_eq_true h
                 subst h; exact ⟨.str _, ⟨t, rfl⟩, fun _ _ _ _ _ => .str s⟩
    | _ => cases h
  | .tup ds, u, h => by
    cases u with
    | ref a =>
      unfold repB at h
      cases e : K.lookup a with
      | none => rw [e] at h; cases h
      | some o =>
        obtain ⟨oc, od, dt, osl⟩ := o
        rw [e] at h
        cases oc with
        | type c =>
          cases dt with
          | seq its n =>
            have h : (decide (c = "tuple") && decide (its.size ≤ sizeLine) && repBs K ds its.toList) = true := h
            rw [Bool.and_eq_true, Bool.and_eq_true] at h
            obtain ⟨⟨h1, h2⟩, h3⟩ := h
            obtain ⟨vs, q1, q2⟩ := repBs_ok ds its.toList h3
            refine ⟨.ref a, rfl, fun S hS H B Γ => .tup (.inr ⟨_, its, n, by rw [hS]; exact e, congrArg Value.type (of_decide_eq_true h1), rfl, of_decide_eq_true h2, q1⟩) (q2 S hS H B Γ)⟩
          | _ => cases h
        | _ => cases h
    | _ => cases h
  | .lst _, u, h => by cases u <;> cases h
  | .dic _ _, u, h => by cases u <;> cases h
  | .fn _, u, h => by cases u <;> cases h
  | .mref _, u, h => by cases u <;> cases h
  | .scr _, u, h => by cases u <;> cases h
theorem repBs_ok {K : PySem.W.Frag} : ∀ (ds : List D) (us : List Value), repBs K ds us = true → ∃ vs, Vals vs us ∧ ∀ S : Inf, S.K = K → ∀ H B Γ, Reps S H B Γ vs ds
  | [], [], _ => ⟨[], .nil, fun _ _ _ _ _ => .nil⟩
  | [], _ :: _, h => by cases h
  | _ :: _, [], h => by cases h
  | d :: ds, u :: us, h => by
    have h : (repB K d u && repBs K ds us) = true := h
    rw [Bool.and_eq_true] at h
    obtain ⟨v, q1, q2⟩ := repB_ok d u h.1
    obtain ⟨vs, q3, q4⟩ := repBs_ok ds us h.2
    exact ⟨v :: vs, .cons q1 q3, fun S hS H B Γ => .cons (q2 S hS H B Γ) (q4 S hS H B Γ)⟩
end
theorem constB_ok {K : PySem.W.Frag} {h : Heap} {mg : Str → Option Value} {x : Str} {d : D} (X : K.In h) (G : h.Ns mainGlobals mg) (c : constB K x d = true) : ∃ v u, mg x = some u ∧ RelV v u ∧ ∀ S : Inf, S.K = K → ∀ H B Γ, Rep S H B Γ v d := by
  unfold constB at c
  cases e : PySem.W.nsIn K mainGlobals x with
  | none => rw [e] at c; cases c
  | some o =>
    cases o with
    | none => rw [e] at c; cases c
    | some u =>
      rw [e] at c
      obtain ⟨v, q1, q2⟩ := repB_ok d u c
      exact ⟨v, u, PySem.W.mg_of X G e, q1, q2⟩
theorem lookN_mem {α : Type} {c : Nat} {x : α} : ∀ {l : List (Nat × α)}, l.lookup c = some x → (c, x) ∈ l
  | [], h => by cases h
  | (d, y) :: l, h => by
    rw [List.lookup_cons] at h
    by_cases e : c = d
    · subst e
      simp at h
      subst h
      exact List.mem_cons_self ..
    · have : (c == d) = false := by simpa using e
      rw [this] at h
      exact List.mem_cons_of_mem _ (lookN_mem h)
/-! ### the rows of a law -/
inductive AllP {α : Type} (P : α → Prop) : List α → Prop
  | nil : AllP P []
  | cons {a : α} {l : List α} : P a → AllP P l → AllP P (a :: l)
theorem AllP.get {α : Type} {P : α → Prop} {l : List α} (h : AllP P l) : ∀ a ∈ l, P a := by
  induction h with
  | nil => intro a ha; cases ha
  | cons p _ ih =>
    intro a ha
    rcases List.mem_cons.mp ha with rfl | ha
    · exact p
    · exact ih a ha
def BindOk (P : Program) (r : Rw) : Prop := ∀ (kV doc pm : Value) (an : Option Addr) (cdv ct : Value) (us : List Value), us.length = r.ps.length →
  bindArgs (PySem.W.fnOf r.name r.name (defArgs (topOf P r.at_)) (defBody (topOf P r.at_)) (defScope (topOf P r.at_)) .none kV doc pm an cdv ct) ⟨us, []⟩ = pure (r.ps.zip us)
def fdK (K : PySem.W.Frag) (a : Addr) : Option FuncData := match K.lookup a with
  | some ⟨_, _, .func fd, _⟩ => some fd
  | _ => none
def infOf (P : Program) (w : World) (K : PySem.W.Frag) (mg : Str → Option Value) (base : Heap) (rows : List Rw) (glo : List (List Nat × D)) (cls : List (Nat × Str)) (d0 : FuncData) : Inf where
  P := P
  w := w
  K := K
  mg := mg
  base := base
  T := (tabOf rows glo cls).T
  nam := fun f => ((rowOf rows f).map (·.name)).getD ""
  fad := fun f => He.ga K (((rowOf rows f).map (·.name)).getD "")
  fd := fun f => (fdK K (He.ga K (((rowOf rows f).map (·.name)).getD ""))).getD d0
  ps := fun f => ((rowOf rows f).map (·.ps)).getD []
  glo := glo
  cad := fun c => He.ga K ((cls.lookup c).getD "")
  cls := cls
def chkR (P : Program) (me : Nat) (rows : List Rw) (glo : List (List Nat × D)) (cls : List (Nat × Str)) : Bool := rows.all fun r => chkF (tabOf rows glo cls) me r.ps r.N r.F (defScope (topOf P r.at_)) (defBody (topOf P r.at_))
section
variable {P : Program} {w : World} {K : PySem.W.Frag} {h : Heap} {mg : Str → Option Value} {rows : List Rw} {glo : List (List Nat × D)} {cls : List (Nat × Str)} {d0 : FuncData} {me : Nat}
theorem row_fun (c : He.SaysD (faOf rows cls) (rows.map (mkD P)) K) {r : Rw} (hr : r ∈ rows) : ∃ fd, FunD K r.name r.name (defArgs (topOf P r.at_)) (defBody (topOf P r.at_)) (defScope (topOf P r.at_)) [] [] (He.ga K r.name) fd ∧ fdK K (He.ga K r.name) = some fd := by
  obtain ⟨fd, F⟩ := c.defs (d := mkD P r) (List.mem_map.mpr ⟨r, hr, rfl⟩)
  refine ⟨fd, F, ?_⟩
  obtain ⟨oc, od, dV, kV, doc, pm, an, cdv, ct, osl, e, lk, _⟩ := F.ex
  have lk : K.lookup (He.ga K r.name) = _ := lk
  unfold fdK
  rw [lk, e]
theorem facts_of (X : K.In h) (G : h.Ns mainGlobals mg) (c : SaysR (faOf rows cls) (rows.map (mkD P)) (exOf glo) K) (hc : chkR P me rows glo cls = true) (hb : AllP (BindOk P) rows) (base : Heap) : Facts (infOf P w K mg base rows glo cls d0) (tabOf rows glo cls) := by
  obtain ⟨c1, c2⟩ := c.d
  refine ⟨rfl, fun f x k e => ?_, fun x d m => ?_, fun x m => ?_, rfl, fun c x e => ?_, fun c x d y e1 e2 => ?_⟩
  · have e : (rowOf rows f).map (fun r => (r.name, r.ps.length)) = some (x, k) := e
    cases er : rowOf rows f with
    | none => rw [er] at e; cases e
    | some r =>
      rw [er] at e
      injection e with e
      injection e with e1 e2
      have hr : r ∈ rows := List.mem_of_find?_eq_some er
      obtain ⟨fd, F, ef⟩ := row_fun c1 hr
      have en : (infOf P w K mg base rows glo cls d0).nam f = r.name := by
        show ((rowOf rows f).map (·.name)).getD (Str.ofString "") = r.name
        rw [er]; rfl
      have ea : (infOf P w K mg base rows glo cls d0).fad f = He.ga K r.name := by
        show He.ga K (((rowOf rows f).map (·.name)).getD "") = _
        rw [er]; rfl
      have ep : (infOf P w K mg base rows glo cls d0).ps f = r.ps := by
        show ((rowOf rows f).map (·.ps)).getD [] = _
        rw [er]; rfl
      have ed : (infOf P w K mg base rows glo cls d0).fd f = fd := by
        show (fdK K ((infOf P w K mg base rows glo cls d0).fad f)).getD d0 = fd
        rw [ea, ef]; rfl
      have eT : (infOf P w K mg base rows glo cls d0).T f = some r.F := by
        show (rowOf rows f).map (·.F) = some r.F
        rw [er]; rfl
      have hg : mg r.name = some (.ref (He.ga K r.name)) := He.glo_ok X G (c1.facts (f := .glo r.name) (List.mem_append_left _ (List.mem_map.mpr ⟨r, hr, rfl⟩)))
      refine ⟨⟨?_, ?_, ?_⟩, by rw [en]; exact e1, by rw [ep]; exact e2, r.F, me, r.N, r.name, defArgs (topOf P r.at_), defBody (topOf P r.at_), defScope (topOf P r.at_), [], [], eT, ?_, ?_⟩
      · rw [en, ea]; exact hg
      · rw [ea]; exact F.kp
      · rw [ed, ep]; exact F.bindsN (hb.get r hr)
      · rw [ea, ed, ← e1]; exact F
      · rw [ep]; exact List.all_eq_true.mp hc r hr
  · have := List.all_eq_true.mp c2 (x, d) m
    obtain ⟨v, u, q1, q2, q3⟩ := constB_ok X G this
    exact ⟨v, u, q1, q2, fun H B Γ => q3 _ rfl H B Γ⟩
  · exact He.free_ok X G (c1.facts (f := .free x) (List.mem_append_right _ (List.mem_append_left _ (List.mem_map.mpr ⟨x, m, rfl⟩))))
  · have e : cls.lookup c = some x := e
    have hm := lookN_mem e
    have ec : (infOf P w K mg base rows glo cls d0).cad c = He.ga K x := by
      show He.ga K ((cls.lookup c).getD (Str.ofString "")) = _
      rw [e]; rfl
    have g := He.glo_ok X G (c1.facts (f := .glo x) (List.mem_append_right _ (List.mem_append_right _ (List.mem_append_left _ (List.mem_map.mpr ⟨_, hm, rfl⟩)))))
    have q := He.exc_ok (c1.facts (f := .exc x) (List.mem_append_right _ (List.mem_append_right _ (List.mem_append_right _ (List.mem_append_left _ (List.mem_map.mpr ⟨_, hm, rfl⟩))))))
    rw [ec]
    exact ⟨g, q⟩
  · have e1 : cls.lookup c = some x := e1
    have e2 : cls.lookup d = some y := e2
    have ec : (infOf P w K mg base rows glo cls d0).cad c = He.ga K x := by
      show He.ga K ((cls.lookup c).getD (Str.ofString "")) = _
      rw [e1]; rfl
    have ed : (infOf P w K mg base rows glo cls d0).cad d = He.ga K y := by
      show He.ga K ((cls.lookup d).getD (Str.ofString "")) = _
      rw [e2]; rfl
    rw [ec, ed]
    exact He.exm_ok (c1.facts (f := .exm x y (exB c d)) (List.mem_append_right _ (List.mem_append_right _ (List.mem_append_right _ (List.mem_append_right _ (List.mem_flatMap.mpr ⟨(c, x), lookN_mem e1, List.mem_map.mpr ⟨(d, y), lookN_mem e2, rfl⟩⟩))))))
/-! ### the law's promise -/
def spLaw (K : PySem.W.Frag) (most : Nat) : Sp := fun vs H Q _ => ∃ (a : Addr) (ns : List Int), vs = [.ref a] ∧ ns.length ≤ most ∧ Only H ∧ SqL K H a (ns.map V.int) ∧ ∀ v H', v = .bl true → Q v H'
theorem law_fn {S : Inf} {J : Tab} (c : Facts S J) {n f most : Nat} {x : Str} (hk : J.nam f = some (x, 1)) (hl : ∀ ns : List Int, ns.length ≤ most → ∃ g', evF J.T n f [.scr (ns.map D.int)] [] = .ok (.bl true) g') :
    FnOk S.P S.w S.K S.mg S.base (L2.CX S.P S.w) n (S.fad f) (S.fd f) (S.ps f) (spLaw S.K most) := by
  obtain ⟨d, _, _, hp⟩ := (c.lnk n).call f x 1 hk
  refine d.ok.imp fun vs H Q E ⟨a, ns, ev, hlen, ho, hs, hq⟩ => ?_
  subst ev
  obtain ⟨g', e⟩ := hl ns hlen
  have ro : Ro S.K H a (ns.map V.int) := by
    rcases hs with (h | ⟨o, h⟩) | h
    · rcases ho a with z | ⟨o, xs, z⟩
      · rw [h] at z; cases z
      · rw [h] at z; cases z
    · exact .inl ⟨o, h⟩
    · exact .inr h
  refine ⟨[.scr (ns.map D.int)], [], fun _ => False, [], hp.symm, .cons (.scr ro (reps_of_ints ns)) .nil, ⟨⟨fun _ z => z.elim, fun _ z => by cases z⟩, rfl, List.nodup_nil, fun n ds z => by simp at z, fun n ds z => by simp at z⟩, ?_⟩
  rw [c.T, e]
  exact fun H' B' Γ' _ _ v r _ => hq v H' r.blv
theorem fnOk_cx {P : Program} {w : World} {K : PySem.W.Frag} {mg : Str → Option Value} {base : Heap} {CX' : CXT} {k : Nat} {f : Addr} {fd : FuncData} {ps : List Str} {sp : Sp} (F : FnOk P w K mg base (L2.CX P w) k f fd ps sp) (hE : ∀ vs H Q E, sp vs H Q E → sp vs H Q fun _ _ _ => False) :
    FnOk P w K mg base CX' k f fd ps sp := ⟨F.len, fun A outer s H args us vs Q E hr he hb hv hs => codeAny_mono (F.run A outer s H args us vs Q (fun _ _ _ => False) hr he hb hv (hE _ _ _ _ hs)) fun r s' h => by
  cases r with
  | ok fl => cases fl <;> exact h
  | error e =>
    obtain ⟨_, _, _, _, _, _, _, _, _, _, _, _, z⟩ := h
    exact z.elim⟩
end
end Rz

namespace Rz
open PySem PySem.Spec PyProof.Rows L2
def chk1 (r : Rw) : Bool := chkF (tabOf rows glo cls) 24 r.ps r.N r.F (defScope (topOf prog r.at_)) (defBody (topOf prog r.at_))
theorem chk_0 : ((rows.drop 0).take 8).all chk1 = true := by decide +kernel
theorem chk_1 : ((rows.drop 8).take 8).all chk1 = true := by decide +kernel
theorem chk_2 : ((rows.drop 16).take 8).all chk1 = true := by decide +kernel
theorem chk_3 : ((rows.drop 24).take 8).all chk1 = true := by decide +kernel
theorem chk_4 : ((rows.drop 32).take 8).all chk1 = true := by decide +kernel
theorem chk_5 : ((rows.drop 40).take 8).all chk1 = true := by decide +kernel
theorem chk_6 : ((rows.drop 48).take 8).all chk1 = true := by decide +kernel
theorem chk_7 : ((rows.drop 56).take 8).all chk1 = true := by decide +kernel
theorem chk_8 : ((rows.drop 64).take 8).all chk1 = true := by decide +kernel
theorem chk_9 : ((rows.drop 72).take 8).all chk1 = true := by decide +kernel
theorem all_cut {l : List Rw} {p : Rw → Bool} (k : Nat) (h1 : (l.take k).all p = true) (h2 : (l.drop k).all p = true) : l.all p = true := by
  rw [← List.take_append_drop k l, List.all_append, h1, h2]; rfl
theorem chk : chkR prog 24 rows glo cls = true := (all_cut (l := rows.drop 0) 8 chk_0 (by rw [List.drop_drop]; exact (all_cut (l := rows.drop 8) 8 chk_1 (by rw [List.drop_drop]; exact (all_cut (l := rows.drop 16) 8 chk_2 (by rw [List.drop_drop]; exact (all_cut (l := rows.drop 24) 8 chk_3 (by rw [List.drop_drop]; exact (all_cut (l := rows.drop 32) 8 chk_4 (by rw [List.drop_drop]; exact (all_cut (l := rows.drop 40) 8 chk_5 (by rw [List.drop_drop]; exact (all_cut (l := rows.drop 48) 8 chk_6 (by rw [List.drop_drop]; exact (all_cut (l := rows.drop 56) 8 chk_7 (by rw [List.drop_drop]; exact (all_cut (l := rows.drop 64) 8 chk_8 (by rw [List.drop_drop]; exact (all_cut (l := rows.drop 72) 8 chk_9 (by rw [List.drop_drop]; exact (by rfl : (rows.drop 80).all chk1 = true)))))))))))))))))))))
theorem binds : AllP (BindOk prog) rows := .cons (fun _ _ _ _ _ _ us hl => match us, hl with | [_, _], _ => rfl) (
    .cons (fun _ _ _ _ _ _ us hl => match us, hl with | [_, _], _ => rfl) (
    .cons (fun _ _ _ _ _ _ us hl => match us, hl with | [_, _], _ => rfl) (
    .cons (fun _ _ _ _ _ _ us hl => match us, hl with | [_, _], _ => rfl) (
    .cons (fun _ _ _ _ _ _ us hl => match us, hl with | [_, _], _ => rfl) (
    .cons (fun _ _ _ _ _ _ us hl => match us, hl with | [_, _], _ => rfl) (
    .cons (fun _ _ _ _ _ _ us hl => match us, hl with | [_, _], _ => rfl) (
    .cons (fun _ _ _ _ _ _ us hl => match us, hl with | [_], _ => rfl) (
    .cons (fun _ _ _ _ _ _ us hl => match us, hl with | [_, _], _ => rfl) (
    .cons (fun _ _ _ _ _ _ us hl => match us, hl with | [_], _ => rfl) (
    .cons (fun _ _ _ _ _ _ us hl => match us, hl with | [_], _ => rfl) (
    .cons (fun _ _ _ _ _ _ us hl => match us, hl with | [_, _, _], _ => rfl) (
    .cons (fun _ _ _ _ _ _ us hl => match us, hl with | [_, _], _ => rfl) (
    .cons (fun _ _ _ _ _ _ us hl => match us, hl with | [_, _], _ => rfl) (
    .cons (fun _ _ _ _ _ _ us hl => match us, hl with | [_], _ => rfl) (
    .cons (fun _ _ _ _ _ _ us hl => match us, hl with | [_, _, _], _ => rfl) (
    .cons (fun _ _ _ _ _ _ us hl => match us, hl with | [_], _ => rfl) (
    .cons (fun _ _ _ _ _ _ us hl => match us, hl with | [_], _ => rfl) (
    .cons (fun _ _ _ _ _ _ us hl => match us, hl with | [_], _ => rfl) (
    .cons (fun _ _ _ _ _ _ us hl => match us, hl with | [_, _], _ => rfl) (
    .cons (fun _ _ _ _ _ _ us hl => match us, hl with | [_, _, _], _ => rfl) (
    .cons (fun _ _ _ _ _ _ us hl => match us, hl with | [_, _, _], _ => rfl) (
    .cons (fun _ _ _ _ _ _ us hl => match us, hl with | [_, _, _], _ => rfl) (
    .cons (fun _ _ _ _ _ _ us hl => match us, hl with | [_, _, _, _], _ => rfl) (
    .cons (fun _ _ _ _ _ _ us hl => match us, hl with | [_], _ => rfl) (
    .cons (fun _ _ _ _ _ _ us hl => match us, hl with | [_], _ => rfl) (
    .cons (fun _ _ _ _ _ _ us hl => match us, hl with | [_], _ => rfl) (
    .cons (fun _ _ _ _ _ _ us hl => match us, hl with | [_, _], _ => rfl) (
    .cons (fun _ _ _ _ _ _ us hl => match us, hl with | [_], _ => rfl) (
    .cons (fun _ _ _ _ _ _ us hl => match us, hl with | [_, _], _ => rfl) (
    .cons (fun _ _ _ _ _ _ us hl => match us, hl with | [_, _], _ => rfl) (
    .cons (fun _ _ _ _ _ _ us hl => match us, hl with | [_, _], _ => rfl) (
    .cons (fun _ _ _ _ _ _ us hl => match us, hl with | [_], _ => rfl) (
    .cons (fun _ _ _ _ _ _ us hl => match us, hl with | [_, _], _ => rfl) (
    .cons (fun _ _ _ _ _ _ us hl => match us, hl with | [_, _, _], _ => rfl) (
    .cons (fun _ _ _ _ _ _ us hl => match us, hl with | [_, _], _ => rfl) (
    .cons (fun _ _ _ _ _ _ us hl => match us, hl with | [_, _], _ => rfl) (
    .cons (fun _ _ _ _ _ _ us hl => match us, hl with | [_, _], _ => rfl) (
    .cons (fun _ _ _ _ _ _ us hl => match us, hl with | [_, _], _ => rfl) (
    .cons (fun _ _ _ _ _ _ us hl => match us, hl with | [_, _, _], _ => rfl) (
    .cons (fun _ _ _ _ _ _ us hl => match us, hl with | [_, _], _ => rfl) (
    .cons (fun _ _ _ _ _ _ us hl => match us, hl with | [_, _, _, _], _ => rfl) (
    .cons (fun _ _ _ _ _ _ us hl => match us, hl with | [_, _, _], _ => rfl) (
    .cons (fun _ _ _ _ _ _ us hl => match us, hl with | [_, _], _ => rfl) (
    .cons (fun _ _ _ _ _ _ us hl => match us, hl with | [_, _], _ => rfl) (
    .cons (fun _ _ _ _ _ _ us hl => match us, hl with | [_, _], _ => rfl) (
    .cons (fun _ _ _ _ _ _ us hl => match us, hl with | [_, _], _ => rfl) (
    .cons (fun _ _ _ _ _ _ us hl => match us, hl with | [_, _], _ => rfl) (
    .cons (fun _ _ _ _ _ _ us hl => match us, hl with | [_, _], _ => rfl) (
    .cons (fun _ _ _ _ _ _ us hl => match us, hl with | [_, _], _ => rfl) (
    .cons (fun _ _ _ _ _ _ us hl => match us, hl with | [_, _], _ => rfl) (
    .cons (fun _ _ _ _ _ _ us hl => match us, hl with | [_], _ => rfl) (
    .cons (fun _ _ _ _ _ _ us hl => match us, hl with | [_, _], _ => rfl) (
    .cons (fun _ _ _ _ _ _ us hl => match us, hl with | [_, _], _ => rfl) (
    .cons (fun _ _ _ _ _ _ us hl => match us, hl with | [_, _, _], _ => rfl) (
    .cons (fun _ _ _ _ _ _ us hl => match us, hl with | [_], _ => rfl) (
    .cons (fun _ _ _ _ _ _ us hl => match us, hl with | [_, _], _ => rfl) (
    .cons (fun _ _ _ _ _ _ us hl => match us, hl with | [_, _], _ => rfl) (
    .cons (fun _ _ _ _ _ _ us hl => match us, hl with | [_, _, _], _ => rfl) (
    .cons (fun _ _ _ _ _ _ us hl => match us, hl with | [_], _ => rfl) (
    .cons (fun _ _ _ _ _ _ us hl => match us, hl with | [_, _], _ => rfl) (
    .cons (fun _ _ _ _ _ _ us hl => match us, hl with | [_], _ => rfl) (
    .cons (fun _ _ _ _ _ _ us hl => match us, hl with | [_], _ => rfl) (
    .cons (fun _ _ _ _ _ _ us hl => match us, hl with | [_, _, _], _ => rfl) (
    .cons (fun _ _ _ _ _ _ us hl => match us, hl with | [_, _], _ => rfl) (
    .cons (fun _ _ _ _ _ _ us hl => match us, hl with | [_, _], _ => rfl) (
    .cons (fun _ _ _ _ _ _ us hl => match us, hl with | [_, _], _ => rfl) (
    .cons (fun _ _ _ _ _ _ us hl => match us, hl with | [_, _], _ => rfl) (
    .cons (fun _ _ _ _ _ _ us hl => match us, hl with | [_, _, _], _ => rfl) (
    .cons (fun _ _ _ _ _ _ us hl => match us, hl with | [_, _, _], _ => rfl) (
    .cons (fun _ _ _ _ _ _ us hl => match us, hl with | [_, _], _ => rfl) (
    .cons (fun _ _ _ _ _ _ us hl => match us, hl with | [_], _ => rfl) (
    .cons (fun _ _ _ _ _ _ us hl => match us, hl with | [_, _, _, _, _], _ => rfl) (
    .cons (fun _ _ _ _ _ _ us hl => match us, hl with | [_, _, _, _], _ => rfl) (
    .cons (fun _ _ _ _ _ _ us hl => match us, hl with | [_], _ => rfl) ( .nil)))))))))))))))))))))))))))))))))))))))))))))))))))))))))))))))))))))))))))

def TT : Nat → Option Fn := (tabOf rows glo cls).T
end Rz
/-! RzM1 -/
set_option linter.all false
set_option maxRecDepth 100000
namespace Rz
/-! rules of the evaluator -/
/-- so that simp writes its steps down -/
theorem nr {α : Sort u} {a b : α} (h : a = b) : a = b := h
section
variable {C : Nat → List D → Gs → R D} {env : Env} {g : Gs}
@[simp] theorem bind_ok {α β : Type} (a : α) (g : Gs) (f : α → Gs → R β) : (R.ok a g).bind f = f a g := nr rfl
@[simp] theorem bind_exc {α β : Type} (c : Nat) (p : D) (g : Gs) (f : α → Gs → R β) : (R.exc c p g : R α).bind f = .exc c p g := nr rfl
@[simp] theorem of_some {α : Type} (a : α) (g : Gs) : R.of (some a) g = .ok a g := nr rfl
@[simp] theorem to_ok (d : D) (g : Gs) (env : Env) (f : D → Gs → SR) : (R.ok d g).to env f = f d g := nr rfl
def slV : Sl → Gs → R D
  | .p d, g => .ok d g
  | _, _ => .no
@[simp] theorem slV_p (d : D) (g : Gs) : slV (.p d) g = .ok d g := nr rfl
@[simp] theorem getS_z (a : Sl) (r : Env) : getS (a :: r) 0 = a := nr rfl
@[simp] theorem getS_s (a : Sl) (r : Env) (n : Nat) : getS (a :: r) (n + 1) = getS r n := nr rfl
@[simp] theorem setS_z (a s : Sl) (r : Env) : setS (a :: r) 0 s = s :: r := nr rfl
@[simp] theorem setS_s (a s : Sl) (r : Env) (n : Nat) : setS (a :: r) (n + 1) s = a :: setS r n s := nr rfl
@[simp] theorem evE_lit (d : D) : evE C (.lit d) env g = .ok d g := nr rfl
@[simp] theorem evE_var (i : Nat) : evE C (.var i) env g = slV (getS env i) g := by
  show (match getS env i with | .p d => R.ok d g | _ => .no) = _
  cases getS env i <;> rfl
@[simp] theorem evE_glo (x : List Nat) (d : D) : evE C (.glo x d) env g = .ok d g := nr rfl
@[simp] theorem evE_fnv (f : Nat) : evE C (.fnv f) env g = .ok (.fn f) g := nr rfl
@[simp] theorem evE_tup (es : List Ex) : evE C (.tup es) env g = (evEs C es env g).bind fun ds g => .ok (.tup ds) g := nr rfl
@[simp] theorem evE_lst (es : List Ex) : evE C (.lst es) env g = (evEs C es env g).bind fun ds g => .ok (.lst ds) g := nr rfl
@[simp] theorem evE_op (o : Op) (a b : Ex) : evE C (.op o a b) env g = (evE C a env g).bind fun x g => (evE C b env g).bind fun y g => .of (op2 o x y) g := nr rfl
def negD : D → Gs → R D
  | .int i, g => .ok (.int (-i)) g
  | _, _ => .no
@[simp] theorem negD_int (i : Int) (g : Gs) : negD (.int i) g = .ok (.int (-i)) g := nr rfl
def notD : D → Gs → R D
  | .bl b, g => .ok (.bl (!b)) g
  | _, _ => .no
@[simp] theorem notD_bl (b : Bool) (g : Gs) : notD (.bl b) g = .ok (.bl (!b)) g := nr rfl
def iteD {α : Type} (x : D) (a b : α) (n : α) : α := match x with
  | .bl true => a
  | .bl false => b
  | _ => n
@[simp] theorem iteD_bl {α : Type} (c : Bool) (a b n : α) : iteD (.bl c) a b n = if c = true then a else b := by cases c <;> rfl
@[simp] theorem evE_neg (a : Ex) : evE C (.neg a) env g = (evE C a env g).bind negD := by
  show (evE C a env g).bind _ = _
  congr 1 <;> (funext x g; cases x <;> rfl)
@[simp] theorem evE_not (a : Ex) : evE C (.not a) env g = (evE C a env g).bind notD := by
  show (evE C a env g).bind _ = _
  congr 1 <;> (funext x g; cases x <;> rfl)
@[simp] theorem evE_and (a b : Ex) : evE C (.and_ a b) env g = (evE C a env g).bind fun x g => iteD x (evE C b env g) (.ok (.bl false) g) .no := by
  show (evE C a env g).bind _ = _
  congr 1 <;> (funext x g; cases x <;> first | rfl | (rename_i c; cases c <;> rfl))
@[simp] theorem evE_or (a b : Ex) : evE C (.or_ a b) env g = (evE C a env g).bind fun x g => iteD x (.ok (.bl true) g) (evE C b env g) .no := by
  show (evE C a env g).bind _ = _
  congr 1 <;> (funext x g; cases x <;> first | rfl | (rename_i c; cases c <;> rfl))
@[simp] theorem evE_ite (c a b : Ex) : evE C (.ite c a b) env g = (evE C c env g).bind fun x g => iteD x (evE C a env g) (evE C b env g) .no := by
  show (evE C c env g).bind _ = _
  congr 1 <;> (funext x g; cases x <;> first | rfl | (rename_i c; cases c <;> rfl))
@[simp] theorem evE_call (f : Nat) (es : List Ex) : evE C (.call f es) env g = (evEs C es env g).bind fun ds g => C f ds g := nr rfl
@[simp] theorem evE_bi (b : Bi) (es : List Ex) : evE C (.bi b es) env g = (evEs C es env g).bind fun ds g => .of (bi b ds) g := nr rfl
@[simp] theorem evE_meth (b : Bi) (a : Ex) (es : List Ex) : evE C (.meth b a es) env g = (evE C a env g).bind fun x g => if mtyp b x then (evEs C es env g).bind fun ds g => .of (bi b (x :: ds)) g else .no := nr rfl
@[simp] theorem evE_ix (a i : Ex) : evE C (.ix a i) env g = (evE C a env g).bind fun x g => (evE C i env g).bind fun y g => .of (ixD g x y) g := nr rfl
@[simp] theorem evE_sl (k : SlK) (a : Ex) (es : List Ex) : evE C (.sl k a es) env g = (evE C a env g).bind fun x g => (evIs C es env g).bind fun ds g => .of (slD k x ds) g := nr rfl
@[simp] theorem evEs_nil : evEs C [] env g = .ok [] g := nr rfl
@[simp] theorem evEs_cons (e : Ex) (es : List Ex) : evEs C (e :: es) env g = (evE C e env g).bind fun d g => (evEs C es env g).bind fun ds g => .ok (d :: ds) g := nr rfl
@[simp] theorem evIs_nil : evIs C [] env g = .ok [] g := nr rfl
@[simp] theorem evIs_cons (e : Ex) (es : List Ex) : evIs C (e :: es) env g = (evE C e env g).bind fun d g => d.toI fun i => (evIs C es env g).bind fun ds g => .ok (.int i :: ds) g := nr rfl
@[simp] theorem toI_int {β : Type} (i : Int) (k : Int → R β) : (D.int i).toI k = k i := nr rfl
@[simp] theorem evC_nil : evC C [] env g = .ok (.bl true) g := nr rfl
@[simp] theorem evC_one (c : Ex) : evC C [c] env g = evE C c env g := nr rfl
def chD (C : Nat → List D → Gs → R D) (p : Op) (c : Ex) (env : Env) (y : D) (g : Gs) (o : Option D) : R D := match o with
  | some (.bl true) => (evE C c env g).bind fun z g => .of (op2 p y z) g
  | some (.bl false) => .ok (.bl false) g
  | _ => .no
@[simp] theorem chD_bl (p : Op) (c : Ex) (y : D) (b : Bool) : chD C p c env y g (some (.bl b)) = if b = true then (evE C c env g).bind fun z g => .of (op2 p y z) g else .ok (.bl false) g := by cases b <;> rfl
@[simp] theorem evE_chain (o p : Op) (a b c : Ex) : evE C (.chain o p a b c) env g = (evE C a env g).bind fun x g => (evE C b env g).bind fun y g => chD C p c env y g (op2 o x y) := nr rfl
def compD (C : Nat → List D → Gs → R D) (e : Ex) (t : Tg) (c : List Ex) (env : Env) (g : Gs) (o : Option (List D)) : R D := match o with
  | none => .no
  | some xs => if Nat.ble xs.length lineN then match compL (fun env g => evE C e env g) (fun env g => evC C c env g) t xs (wipeS t.ix env) g with
      | .ok ys g => .ok (.lst ys) g
      | _ => .no
    else .no
@[simp] theorem evE_comp (e : Ex) (t : Tg) (k : ItK) (es c : List Ex) : evE C (.comp e t k es c) env g = (evEs C es env g).bind fun ds g => compD C e t c env g (items k ds) := nr rfl
/-! statements -/
def thenS (C : Nat → List D → Gs → R D) (ss : List St) : SR → SR
  | .nx env g => evSs C ss env g
  | r => r
@[simp] theorem thenS_nx (ss : List St) : thenS C ss (.nx env g) = evSs C ss env g := nr rfl
@[simp] theorem thenS_ret (ss : List St) (d : D) : thenS C ss (.ret d g) = .ret d g := nr rfl
@[simp] theorem thenS_brk (ss : List St) : thenS C ss (.brk env g) = .brk env g := nr rfl
@[simp] theorem thenS_cnt (ss : List St) : thenS C ss (.cnt env g) = .cnt env g := nr rfl
@[simp] theorem evSs_nil : evSs C [] env g = .nx env g := nr rfl
@[simp] theorem evSs_cons (s : St) (ss : List St) : evSs C (s :: ss) env g = thenS C ss (evS C s env g) := by
  show (match evS C s env g with | .nx env g => evSs C ss env g | r => r) = _
  cases evS C s env g <;> rfl
@[simp] theorem thenS_ite (ss : List St) (c : Prop) [Decidable c] (a b : SR) : thenS C ss (if c then a else b) = if c then thenS C ss a else thenS C ss b := by split <;> rfl
@[simp] theorem evS_asg (i : Nat) (e : Ex) : evS C (.asg i e) env g = (evE C e env g).to env fun d g => .nx (setS env i (.p d)) g := nr rfl
@[simp] theorem evS_own (i : Nat) (e : Ex) : evS C (.own i e) env g = (evE C e env g).to env fun d g => if isLst d then .nx (setS env i (.o d)) g else .no := nr rfl
@[simp] theorem evS_frz (is : List Nat) : evS C (.frz is) env g = .nx (frz is env) g := nr rfl
@[simp] theorem evS_asg2 (i j : Nat) (e : Ex) : evS C (.asg2 i j e) env g = (evE C e env g).to env fun d g => .nx (setS (setS env i (.p d)) j (.p d)) g := nr rfl
def celD (i : Nat) (env : Env) (d : D) (g : Gs) : SR := match d with
  | .lst ds => if D.noLs ds then .nx (setS env i (.p (.mref g.length))) (g ++ [ds]) else .no
  | _ => .no
@[simp] theorem evS_cel (i : Nat) (e : Ex) : evS C (.cel i e) env g = (evE C e env g).to env (celD i env) := nr rfl
@[simp] theorem celD_lst (i : Nat) (ds : List D) : celD i env (.lst ds) g = if D.noLs ds then .nx (setS env i (.p (.mref g.length))) (g ++ [ds]) else .no := nr rfl
def nxO : Option Env → Gs → SR
  | some env, g => .nx env g
  | none, _ => .no
@[simp] theorem nxO_some : nxO (some env) g = .nx env g := nr rfl
def parD (ts : List (Bool × Nat)) (env : Env) : R (List D) → SR
  | .ok ds g => nxO (setPar ts ds env) g
  | .exc c p g => .exc c p env g
  | .no => .no
@[simp] theorem parD_ok (ts : List (Bool × Nat)) (ds : List D) : parD ts env (.ok ds g) = nxO (setPar ts ds env) g := nr rfl
@[simp] theorem evS_par (ts : List (Bool × Nat)) (es : List Ex) : evS C (.par ts es) env g = parD ts env (evEs C es env g) := by
  show (match evEs C es env g with | .ok ds g => (match setPar ts ds env with | some env => SR.nx env g | none => .no) | .exc c p g => .exc c p env g | .no => .no) = _
  cases evEs C es env g with
  | ok ds g => show (match setPar ts ds env with | some env => SR.nx env g | none => .no) = nxO _ g; cases setPar ts ds env <;> rfl
  | _ => rfl
@[simp] theorem evS_unp (t : Tg) (e : Ex) : evS C (.unp t e) env g = (evE C e env g).to env fun d g => nxO (bindT t d env) g := by
  show (evE C e env g).to env _ = _
  congr 1 <;> (funext d g; cases bindT t d env <;> rfl)
@[simp] theorem evS_ex (e : Ex) : evS C (.ex e) env g = (evE C e env g).to env fun _ g => .nx env g := nr rfl
@[simp] theorem evS_ite (c : Ex) (a b : List St) : evS C (.ite c a b) env g = (evE C c env g).to env fun x g => iteD x (evSs C a env g) (evSs C b env g) .no := by
  show (evE C c env g).to env _ = _
  congr 1 <;> (funext x g; cases x <;> first | rfl | (rename_i c; cases c <;> rfl))
def forD (C : Nat → List D → Gs → R D) (t : Tg) (body : List St) (env : Env) (g : Gs) : Option (List D) → SR
  | some xs => forL (fun env g => evSs C body env g) t xs env g
  | none => .no
def bodyOf (C : Nat → List D → Gs → R D) (bs : List St) : Env → Gs → SR := fun env g => evSs C bs env g
def cndOf (C : Nat → List D → Gs → R D) (c : Ex) : Env → Gs → R D := fun env g => evE C c env g
theorem bodyOf_eq (bs : List St) : bodyOf C bs env g = evSs C bs env g := rfl
theorem cndOf_eq (c : Ex) : cndOf C c env g = evE C c env g := rfl
@[simp] theorem forD_some (t : Tg) (body : List St) (xs : List D) : forD C t body env g (some xs) = forL (bodyOf C body) t xs env g := nr rfl
def fork (C : Nat → List D → Gs → R D) (t : Tg) (k : ItK) (body : List St) (env : Env) : R (List D) → SR
  | .ok ds g => forD C t body env g (items k ds)
  | .exc c p g => .exc c p env g
  | .no => .no
@[simp] theorem fork_ok (t : Tg) (k : ItK) (body : List St) (ds : List D) : fork C t k body env (.ok ds g) = forD C t body env g (items k ds) := nr rfl
@[simp] theorem evS_for (t : Tg) (k : ItK) (es : List Ex) (body : List St) : evS C (.for_ t k es body) env g = fork C t k body env (evEs C es env g) := by
  show (match evEs C es env g with | .ok ds g => (match items k ds with | some xs => forL (fun env g => evSs C body env g) t xs env g | none => .no) | .exc c p g => .exc c p env g | .no => .no) = _
  cases evEs C es env g with
  | ok ds g => show (match items k ds with | some xs => forL (fun env g => evSs C body env g) t xs env g | none => .no) = forD C t body env g (items k ds); cases items k ds <;> rfl
  | _ => rfl
@[simp] theorem evS_whl (c : Ex) (body : List St) : evS C (.whl c body) env g = whlL (cndOf C c) (bodyOf C body) WF env g := nr rfl
@[simp] theorem evS_ret (e : Ex) : evS C (.ret e) env g = (evE C e env g).to env fun d g => .ret d g := nr rfl
@[simp] theorem evS_retN : evS C .retN env g = .ret .non g := nr rfl
@[simp] theorem evS_brk : evS C .brk env g = .brk env g := nr rfl
@[simp] theorem evS_cnt : evS C .cnt env g = .cnt env g := nr rfl
def appD (i : Nat) (env : Env) (r : R D) : Sl → SR
  | .o (.lst ds) => r.to env fun d g => if Nat.blt ds.length lineN then .nx (setS env i (.o (.lst (ds ++ [d])))) g else .no
  | _ => .no
@[simp] theorem appD_o (i : Nat) (r : R D) (ds : List D) : appD i env r (.o (.lst ds)) = r.to env fun d g => if Nat.blt ds.length lineN then .nx (setS env i (.o (.lst (ds ++ [d])))) g else .no := nr rfl
@[simp] theorem evS_app (i : Nat) (e : Ex) : evS C (.app i e) env g = appD i env (evE C e env g) (getS env i) := by
  show (match getS env i with | .o (.lst ds) => _ | _ => _) = _
  cases getS env i with
  | o d => cases d <;> rfl
  | _ => rfl
/-! calls -/
@[simp] theorem outR_ret (d : D) : outR (.ret d g) = .ok d g := nr rfl
@[simp] theorem outR_nx : outR (.nx env g) = .ok .non g := nr rfl
@[simp] theorem outR_ite (c : Prop) [Decidable c] (a b : SR) : outR (if c then a else b) = if c then outR a else outR b := by split <;> rfl
theorem evF_s {T : Nat → Option Fn} {f : Nat} {F : Fn} (h : T f = some F) (n : Nat) (ds : List D) (g : Gs) : evF T (n + 1) f ds g = runF (evF T n) F ds g := by
  show (match T f with | some F => runF (evF T n) F ds g | none => .no) = _
  rw [h]
theorem runF_eq {C : Nat → List D → Gs → R D} {F : Fn} {ds : List D} {g : Gs} (h : (ds.length == F.np) = true) : runF C F ds g = outR (evSs C F.body (entry F ds) g) := if_pos h
end
end Rz
/-! RzM2 -/
set_option linter.all false
set_option maxRecDepth 100000
set_option exponentiation.threshold 20000
namespace Rz
/-! ### sizes -/
theorem log2_lt' {x n : Nat} (h : x < 2 ^ n) (hn : 0 < n) : x.log2 < n := by
  by_cases h0 : x = 0
  · rw [h0]; simpa using hn
  · exact (Nat.log2_lt h0).mpr h
theorem mulOk_of {i j : Int} {n m : Nat} (h1 : i.natAbs < 2 ^ n) (h2 : j.natAbs < 2 ^ m) (hn : 0 < n) (hm : 0 < m) (h : n + m ≤ 100000000) : mulOk i j = true := by
  unfold mulOk
  have a := log2_lt' h1 hn
  have b := log2_lt' h2 hm
  exact Nat.ble_eq_true_of_le (by omega)
@[irreducible] def B2 : Nat := 2 ^ 13400
@[irreducible] def B4 : Nat := 2 ^ 400000
theorem B2_eq : B2 = 2 ^ 13400 := by unfold B2; rfl
theorem B4_eq : B4 = 2 ^ 400000 := by unfold B4; rfl
theorem B2_B4 : B2 ≤ B4 := by rw [B2_eq, B4_eq]; exact Nat.pow_le_pow_right (by decide) (by decide)
theorem divOk_of {i j : Int} (h0 : j ≠ 0) (h : i.natAbs < B2) : divOk i j = true := by
  rw [B2_eq] at h
  unfold divOk
  have a := log2_lt' h (by decide)
  have e1 : (!(j == 0)) = true := by simpa using h0
  rw [e1, Bool.true_and, Bool.or_eq_true]
  by_cases c : j.natAbs.log2 < 9000
  · exact .inl (Nat.ble_eq_true_of_le c)
  · exact .inr (Nat.ble_eq_true_of_le (by omega))
theorem divOk_small {i j : Int} (h0 : j ≠ 0) (h : j.natAbs < 2 ^ 9000) : divOk i j = true := by
  unfold divOk
  have a := log2_lt' h (by decide)
  have e1 : (!(j == 0)) = true := by simpa using h0
  rw [e1, Bool.true_and, Bool.or_eq_true]
  exact .inl (Nat.ble_eq_true_of_le a)
theorem op_add_i (i j : Int) : op2 .add (.int i) (.int j) = some (.int (i + j)) := rfl
theorem op_sub_i (i j : Int) : op2 .sub (.int i) (.int j) = some (.int (i - j)) := rfl
theorem op_mul_i {i j : Int} (h : mulOk i j = true) : op2 .mul (.int i) (.int j) = some (.int (i * j)) := if_pos h
theorem op_fdiv_i {i j : Int} (h : divOk i j = true) : op2 .fdiv (.int i) (.int j) = some (.int (i.fdiv j)) := if_pos h
theorem op_mod_i {i j : Int} (h : j ≠ 0) : op2 .mod (.int i) (.int j) = some (.int (i.fmod j)) := by
  show (if (j == 0) = true then none else _) = _
  rw [if_neg (by simpa using h)]
theorem op_mod_n (a b : Nat) (h : b ≠ 0) : op2 .mod (.int a) (.int b) = some (.int ((a % b : Nat) : Int)) := by
  rw [op_mod_i (by omega), Int.fmod_eq_emod_of_nonneg _ (by omega)]; rfl
theorem op_lt_i (i j : Int) : op2 .lt (.int i) (.int j) = some (.bl (decide (i < j))) := rfl
theorem op_le_i (i j : Int) : op2 .le (.int i) (.int j) = some (.bl (decide (i ≤ j))) := rfl
theorem op_gt_i (i j : Int) : op2 .gt (.int i) (.int j) = some (.bl (decide (j < i))) := rfl
theorem op_ge_i (i j : Int) : op2 .ge (.int i) (.int j) = some (.bl (decide (j ≤ i))) := rfl
theorem op_eq_i (i j : Int) : op2 .eq (.int i) (.int j) = some (.bl (decide (i = j))) := by
  show some (D.bl (i == j)) = _
  by_cases h : i = j <;> simp [h]
theorem op_ne_i (i j : Int) : op2 .ne (.int i) (.int j) = some (.bl (!decide (i = j))) := by
  show some (D.bl (!(i == j))) = _
  by_cases h : i = j <;> simp [h]

/-! ### the greatest common divisor -/
theorem whl_s (c : Env → Gs → R D) (b : Env → Gs → SR) (k : Nat) (env : Env) (g : Gs) (v : Bool) (g1 : Gs) (h : c env g = .ok (.bl v) g1) :
    whlL c b (k + 1) env g = if v then (match b env g1 with
      | .nx e2 g2 => whlL c b k e2 g2
      | .cnt e2 g2 => whlL c b k e2 g2
      | .brk e2 g2 => .nx e2 g2
      | r => r) else .nx env g1 := by
  show (match c env g with | .ok (.bl true) g1 => _ | .ok (.bl false) g1 => _ | .exc x p g1 => _ | _ => _) = _
  rw [h]
  cases v <;> rfl
theorem euc2 {a b : Nat} (hr : a % b ≠ 0) (hb : b ≠ 0) : b % (a % b) < b - b / 2 := by
  have h1 : a % b < b := Nat.mod_lt _ (by omega)
  have h2 : b % (a % b) < a % b := Nat.mod_lt _ (by omega)
  have h3 : b % (a % b) ≤ b - a % b := by
    rw [Nat.mod_eq_sub_mod (by omega)]
    exact Nat.mod_le _ _
  omega
theorem gcd_step (a b : Nat) : Nat.gcd b (a % b) = Nat.gcd a b := by
  rw [Nat.gcd_comm a b, Nat.gcd_rec b a, Nat.gcd_comm]
section
variable (C : Nat → List D → Gs → R D) (g : Gs)
/-- the loop of common: slots 0 and 1 -/
theorem common_loop (c : Env → Gs → R D) (bd : Env → Gs → SR) (mk : Nat → Nat → Env) (hc : ∀ a b, c (mk a b) g = .ok (.bl (decide (0 < b))) g) (hb : ∀ a b, 0 < b → bd (mk a b) g = .nx (mk b (a % b)) g) :
    ∀ (m : Nat) (a b fuel : Nat), b < 2 ^ m → 2 * m + 1 ≤ fuel → whlL c bd fuel (mk a b) g = .nx (mk (Nat.gcd a b) 0) g
  | 0, a, b, fuel, h, hf => by
    have hb0 : b = 0 := by simpa using h
    subst hb0
    obtain ⟨k, rfl⟩ : ∃ k, fuel = k + 1 := ⟨fuel - 1, by omega⟩
    rw [whl_s _ _ _ _ _ _ _ (hc a 0)]
    simp
  | m + 1, a, b, fuel, h, hf => by
    obtain ⟨k, rfl⟩ : ∃ k, fuel = k + 1 := ⟨fuel - 1, by omega⟩
    rw [whl_s _ _ _ _ _ _ _ (hc a b)]
    by_cases h0 : b = 0
    · subst h0; simp
    · have hp : 0 < b := by omega
      simp only [hp, decide_true, if_true]
      rw [hb a b hp]
      show whlL c bd k (mk b (a % b)) g = _
      obtain ⟨k, rfl⟩ : ∃ j, k = j + 1 := ⟨k - 1, by omega⟩
      rw [whl_s _ _ _ _ _ _ _ (hc b (a % b))]
      by_cases h1 : a % b = 0
      · rw [← gcd_step a b, h1]; simp
      · have hp1 : 0 < a % b := by omega
        simp only [hp1, decide_true, if_true]
        rw [hb b (a % b) hp1]
        show whlL c bd k (mk (a % b) (b % (a % b))) g = _
        have := euc2 h1 h0
        rw [common_loop c bd mk hc hb m (a % b) (b % (a % b)) k (by rw [Nat.pow_succ] at h; omega) (by omega), gcd_step, gcd_step]
end
theorem T_common : TT i_common = some d_common := rfl
theorem T_lowest : TT i_lowest = some d_lowest := rfl
theorem T_plus : TT i_plus = some d_plus := rfl
theorem T_minus : TT i_minus = some d_minus := rfl
theorem T_times : TT i_times = some d_times := rfl
theorem T_over : TT i_over = some d_over := rfl
theorem ev_common (k : Nat) (a b : Nat) (g : Gs) (h : b < B4) : evF TT (k + 1) i_common [.int a, .int b] g = .ok (.int (Nat.gcd a b : Nat)) g := by
  rw [evF_s T_common, runF_eq rfl]
  have L := common_loop g (cndOf (evF TT k) (.op .gt (.var 1) (.lit (.int 0)))) (bodyOf (evF TT k) [.par [(false, 0), (false, 1)] [.var 1, .op .mod (.var 0) (.var 1)]]) (fun a b => [.p (.int a), .p (.int b)])
    (fun a b => by simp [cndOf_eq, op_gt_i]) (fun a b hb => by simp [bodyOf_eq, op_mod_n a b (by omega), setPar]) 400000 a b WF (by rw [← B4_eq]; exact h) (by decide)
  show outR (evSs (evF TT k) [.whl (.op .gt (.var 1) (.lit (.int 0))) [.par [(false, 0), (false, 1)] [.var 1, .op .mod (.var 0) (.var 1)]], .ret (.var 0)] [.p (.int a), .p (.int b)] g) = _
  rw [evSs_cons, evS_whl, L]
  simp

/-! ### fractions -/
def fr (q : Rat) : D := .tup [.int q.num, .int q.den]
@[irreducible] def BB : Nat := 2 ^ 6690
theorem BB_eq : BB = 2 ^ 6690 := by unfold BB; rfl
theorem BB_sq : BB * BB = 2 ^ 13380 := by rw [BB_eq, ← Nat.pow_add]
/-- what may be reckoned with -/
structure Sm (q : Rat) : Prop where
  num : q.num.natAbs < BB
  den : q.den < BB
theorem bi_abs_i (i : Int) : bi .abs [.int i] = some (.int (i.natAbs : Int)) := by
  show some (D.int (if i < 0 then -i else i)) = _
  congr 2
  omega
theorem fdiv_nn (a : Int) (b : Nat) : a.fdiv (b : Int) = a / (b : Int) := Int.fdiv_eq_ediv_of_nonneg a (by omega)
theorem ev_lowest_pos (k : Nat) (t : Int) (b : Nat) (g : Gs) (hb : b ≠ 0) (ht : t.natAbs < B2) (hb2 : b < B2) : evF TT (k + 2) i_lowest [.int t, .int b] g = .ok (fr (Rat.normalize t b hb)) g := by
  rw [evF_s T_lowest, runF_eq rfl]
  show outR (evSs (evF TT (k + 1)) b_lowest [.p (.int t), .p (.int b), .u] g) = _
  have h0 : ¬ ((b : Int) < 0) := by omega
  have hg : Nat.gcd t.natAbs b ≠ 0 := Nat.gcd_ne_zero_right hb
  have hcom := ev_common k t.natAbs b g (Nat.lt_of_lt_of_le hb2 B2_B4)
  have d1 : divOk t (Nat.gcd t.natAbs b : Nat) = true := divOk_of (by omega) ht
  have d2 : divOk (b : Int) (Nat.gcd t.natAbs b : Nat) = true := divOk_of (by omega) (by simpa using hb2)
  simp [b_lowest, op_lt_i, h0, bi_abs_i, hcom, op_fdiv_i d1, op_fdiv_i d2, fr, Rat.normalize_eq, fdiv_nn]

theorem atI_nat {α : Type} (xs : List α) (i : Nat) : atI xs (i : Int) = xs[i]? := by
  unfold atI ixN
  rw [if_pos (by omega)]
  by_cases h : i < xs.length
  · rw [if_pos (by omega)]; simp
  · rw [if_neg (by omega)]; simp [List.getElem?_eq_none (by omega : xs.length ≤ i)]
theorem ix_tn (g : Gs) (xs : List D) (i : Nat) : ixD g (.tup xs) (.int (i : Int)) = xs[i]? := atI_nat xs i
theorem ix_ln (g : Gs) (xs : List D) (i : Nat) : ixD g (.lst xs) (.int (i : Int)) = xs[i]? := atI_nat xs i
@[simp] theorem ix_t0 (g : Gs) (a : D) (r : List D) : ixD g (.tup (a :: r)) (.int 0) = some a := ix_tn g _ 0
@[simp] theorem ix_t1 (g : Gs) (a b : D) (r : List D) : ixD g (.tup (a :: b :: r)) (.int 1) = some b := ix_tn g _ 1
@[simp] theorem ix_t2 (g : Gs) (a b c : D) (r : List D) : ixD g (.tup (a :: b :: c :: r)) (.int 2) = some c := ix_tn g _ 2
@[simp] theorem ix_t3 (g : Gs) (a b c d : D) (r : List D) : ixD g (.tup (a :: b :: c :: d :: r)) (.int 3) = some d := ix_tn g _ 3
@[simp] theorem ix_l0 (g : Gs) (a : D) (r : List D) : ixD g (.lst (a :: r)) (.int 0) = some a := ix_ln g _ 0
@[simp] theorem ix_l1 (g : Gs) (a b : D) (r : List D) : ixD g (.lst (a :: b :: r)) (.int 1) = some b := ix_ln g _ 1
theorem mul_lt_BB {x y : Nat} (h1 : x < BB) (h2 : y < BB) : x * y < BB * BB := by
  exact Nat.mul_lt_mul'' h1 h2
theorem mulOk_BB {i j : Int} (h1 : i.natAbs < BB) (h2 : j.natAbs < BB) : mulOk i j = true := by
  rw [BB_eq] at h1 h2
  exact mulOk_of h1 h2 (by decide) (by decide) (by decide)
theorem natAbs_ofNat' (n : Nat) : ((n : Int)).natAbs = n := Int.natAbs_natCast n
theorem p13400 : BB * BB + BB * BB ≤ B2 := by
  rw [BB_sq, B2_eq]
  have : (2 : Nat) ^ 13400 = 2 ^ 13380 * 2 ^ 20 := by rw [← Nat.pow_add]
  omega
theorem ev_plus (k : Nat) (a b : Rat) (g : Gs) (ha : Sm a) (hb : Sm b) : evF TT (k + 3) i_plus [fr a, fr b] g = .ok (fr (a + b)) g := by
  rw [evF_s T_plus, runF_eq rfl]
  show outR (evSs (evF TT (k + 2)) b_plus [.p (fr a), .p (fr b)] g) = _
  have m1 : mulOk a.num b.den = true := mulOk_BB ha.num (by rw [natAbs_ofNat']; exact hb.den)
  have m2 : mulOk b.num a.den = true := mulOk_BB hb.num (by rw [natAbs_ofNat']; exact ha.den)
  have m3 : mulOk (a.den : Int) b.den = true := mulOk_BB (by rw [natAbs_ofNat']; exact ha.den) (by rw [natAbs_ofNat']; exact hb.den)
  have z : a.den * b.den ≠ 0 := Nat.mul_ne_zero a.den_nz b.den_nz
  have l := ev_lowest_pos k (a.num * b.den + b.num * a.den) (a.den * b.den) g z (by
    have h1 := mul_lt_BB ha.num hb.den
    have h2 := mul_lt_BB hb.num ha.den
    have h3 := Int.natAbs_add_le (a.num * b.den) (b.num * a.den)
    rw [Int.natAbs_mul, Int.natAbs_mul, natAbs_ofNat', natAbs_ofNat'] at h3
    have := p13400
    omega) (by
    have h1 := mul_lt_BB ha.den hb.den
    have := p13400
    omega)
  rw [← Rat.add_def] at l
  push_cast at l
  simp [b_plus, fr, op_mul_i m1, op_mul_i m2, op_mul_i m3, op_add_i] at l ⊢
  rw [l]
  rfl
theorem ev_minus (k : Nat) (a b : Rat) (g : Gs) (ha : Sm a) (hb : Sm b) : evF TT (k + 3) i_minus [fr a, fr b] g = .ok (fr (a - b)) g := by
  rw [evF_s T_minus, runF_eq rfl]
  show outR (evSs (evF TT (k + 2)) b_minus [.p (fr a), .p (fr b)] g) = _
  have m1 : mulOk a.num b.den = true := mulOk_BB ha.num (by rw [natAbs_ofNat']; exact hb.den)
  have m2 : mulOk b.num a.den = true := mulOk_BB hb.num (by rw [natAbs_ofNat']; exact ha.den)
  have m3 : mulOk (a.den : Int) b.den = true := mulOk_BB (by rw [natAbs_ofNat']; exact ha.den) (by rw [natAbs_ofNat']; exact hb.den)
  have z : a.den * b.den ≠ 0 := Nat.mul_ne_zero a.den_nz b.den_nz
  have l := ev_lowest_pos k (a.num * b.den - b.num * a.den) (a.den * b.den) g z (by
    have h1 := mul_lt_BB ha.num hb.den
    have h2 := mul_lt_BB hb.num ha.den
    have h3 := Int.natAbs_add_le (a.num * b.den) (-(b.num * a.den))
    rw [Int.natAbs_neg, Int.natAbs_mul, Int.natAbs_mul, natAbs_ofNat', natAbs_ofNat'] at h3
    have := p13400
    rw [Int.sub_eq_add_neg]
    omega) (by
    have h1 := mul_lt_BB ha.den hb.den
    have := p13400
    omega)
  rw [← Rat.sub_def] at l
  push_cast at l
  simp [b_minus, fr, op_mul_i m1, op_mul_i m2, op_mul_i m3, op_sub_i] at l ⊢
  rw [l]
  rfl
theorem ev_times (k : Nat) (a b : Rat) (g : Gs) (ha : Sm a) (hb : Sm b) : evF TT (k + 3) i_times [fr a, fr b] g = .ok (fr (a * b)) g := by
  rw [evF_s T_times, runF_eq rfl]
  show outR (evSs (evF TT (k + 2)) b_times [.p (fr a), .p (fr b)] g) = _
  have m1 : mulOk a.num b.num = true := mulOk_BB ha.num hb.num
  have m3 : mulOk (a.den : Int) b.den = true := mulOk_BB (by rw [natAbs_ofNat']; exact ha.den) (by rw [natAbs_ofNat']; exact hb.den)
  have z : a.den * b.den ≠ 0 := Nat.mul_ne_zero a.den_nz b.den_nz
  have l := ev_lowest_pos k (a.num * b.num) (a.den * b.den) g z (by
    have h1 := mul_lt_BB ha.num hb.num
    rw [Int.natAbs_mul]
    have := p13400
    omega) (by
    have h1 := mul_lt_BB ha.den hb.den
    have := p13400
    omega)
  rw [← Rat.mul_def] at l
  push_cast at l
  simp [b_times, fr, op_mul_i m1, op_mul_i m3] at l ⊢
  rw [l]
  rfl

theorem divInt_pos {t : Int} {b : Nat} (hb : b ≠ 0) : Rat.divInt t b = Rat.normalize t b hb := by
  rw [Rat.divInt_ofNat, Rat.mkRat_def, dif_neg hb]
theorem ev_lowest (k : Nat) (t b : Int) (g : Gs) (hb : b ≠ 0) (ht : t.natAbs < B2) (hb2 : b.natAbs < B2) : evF TT (k + 2) i_lowest [.int t, .int b] g = .ok (fr (Rat.divInt t b)) g := by
  by_cases h : 0 ≤ b
  · obtain ⟨n, rfl⟩ := Int.eq_ofNat_of_zero_le h
    rw [divInt_pos (by omega)]
    exact ev_lowest_pos k t n g (by omega) ht (by simpa using hb2)
  · rw [evF_s T_lowest, runF_eq rfl]
    show outR (evSs (evF TT (k + 1)) b_lowest [.p (.int t), .p (.int b), .u] g) = _
    have h0 : b < 0 := by omega
    obtain ⟨n, hn⟩ := Int.eq_ofNat_of_zero_le (show 0 ≤ -b by omega)
    have hbn : b = -(n : Int) := by omega
    subst hbn
    have hn0 : n ≠ 0 := by omega
    have hn1 : (0 : Int) < n := by omega
    have hb3 : n < B2 := by simpa using hb2
    have hg : Nat.gcd t.natAbs n ≠ 0 := Nat.gcd_ne_zero_right hn0
    have hcom := ev_common k t.natAbs n g (Nat.lt_of_lt_of_le hb3 B2_B4)
    have d1 : divOk (-t) (Nat.gcd t.natAbs n : Nat) = true := divOk_of (by omega) (by rw [Int.natAbs_neg]; exact ht)
    have d2 : divOk (n : Int) (Nat.gcd t.natAbs n : Nat) = true := divOk_of (by omega) (by simpa using hb3)
    have e : Rat.divInt t (-(n : Int)) = Rat.normalize (-t) n hn0 := by
      rw [← divInt_pos hn0]
      rw [Rat.divInt_neg']
    rw [e]
    have hn2 : ((-(n : Int)) < 0) = True := by simp; omega
    simp only [b_lowest]
    rw [evSs_cons, evS_ite]
    simp [op_lt_i, hn0, op_sub_i, setPar, bi_abs_i, hcom, op_fdiv_i d1, op_fdiv_i d2, fr, Rat.normalize_eq, fdiv_nn]
theorem div_eq_divInt (a b : Rat) (hb : b ≠ 0) : a / b = Rat.divInt (a.num * b.den) (a.den * b.num) := by
  rw [Rat.div_def, Rat.inv_def, ← Rat.divInt_mul_divInt, Rat.num_divInt_den]
theorem num_ne {b : Rat} (h : b ≠ 0) : b.num ≠ 0 := fun z => h (Rat.num_eq_zero.mp z)
theorem ev_over (k : Nat) (a b : Rat) (g : Gs) (ha : Sm a) (hb : Sm b) (h0 : b ≠ 0) : evF TT (k + 3) i_over [fr a, fr b] g = .ok (fr (a / b)) g := by
  rw [evF_s T_over, runF_eq rfl]
  show outR (evSs (evF TT (k + 2)) b_over [.p (fr a), .p (fr b)] g) = _
  have m1 : mulOk a.num b.den = true := mulOk_BB ha.num (by rw [natAbs_ofNat']; exact hb.den)
  have m3 : mulOk (a.den : Int) b.num = true := mulOk_BB (by rw [natAbs_ofNat']; exact ha.den) hb.num
  have l := ev_lowest k (a.num * b.den) (a.den * b.num) g (Int.mul_ne_zero (by have := a.den_nz; omega) (num_ne h0)) (by
    have h1 := mul_lt_BB ha.num hb.den
    rw [Int.natAbs_mul, natAbs_ofNat']
    have := p13400
    omega) (by
    have h1 := mul_lt_BB ha.den hb.num
    rw [Int.natAbs_mul, natAbs_ofNat']
    have := p13400
    omega)
  rw [← div_eq_divInt a b h0] at l
  simp [b_over, fr, op_mul_i m1, op_mul_i m3, ix_t1] at l ⊢
  rw [l]
  rfl
/-! ### the law's own fractions -/
theorem T_law_low : TT i_law_low = some d_law_low := rfl
theorem T_law_add : TT i_law_add = some d_law_add := rfl
theorem T_law_sub : TT i_law_sub = some d_law_sub := rfl
theorem T_law_mul : TT i_law_mul = some d_law_mul := rfl
theorem ev_law_low (k : Nat) (t b : Int) (g : Gs) (hb : b ≠ 0) (ht : t.natAbs < B2) (hb2 : b.natAbs < B2) : evF TT (k + 1) i_law_low [.int t, .int b] g = .ok (fr (Rat.divInt t b)) g := by
  rw [evF_s T_law_low, runF_eq rfl]
  have L := common_loop g (cndOf (evF TT k) (.op .ne (.var 3) (.lit (.int 0)))) (bodyOf (evF TT k) [.par [(false, 2), (false, 3)] [.var 3, .op .mod (.var 2) (.var 3)]]) (fun x y => [.p (.int t), .p (.int b), .p (.int x), .p (.int y)])
    (fun a b => by
      simp [cndOf_eq, op_ne_i]
      by_cases h : b = 0 <;> simp [h] <;> omega) (fun a b hb => by simp [bodyOf_eq, op_mod_n a b (by omega), setPar]) 400000 t.natAbs b.natAbs WF (by rw [← B4_eq]; exact Nat.lt_of_lt_of_le hb2 B2_B4) (by decide)
  have hg : Nat.gcd t.natAbs b.natAbs ≠ 0 := Nat.gcd_ne_zero_right (by omega)
  show outR (evSs (evF TT k) b_law_low [.p (.int t), .p (.int b), .u, .u] g) = _
  have d1 : divOk t (Nat.gcd t.natAbs b.natAbs : Nat) = true := divOk_of (by omega) ht
  have d2 : divOk b (Nat.gcd t.natAbs b.natAbs : Nat) = true := divOk_of (by omega) hb2
  have d3 : divOk (-t) (Nat.gcd t.natAbs b.natAbs : Nat) = true := divOk_of (by omega) (by rw [Int.natAbs_neg]; exact ht)
  have d4 : divOk (-b) (Nat.gcd t.natAbs b.natAbs : Nat) = true := divOk_of (by omega) (by rw [Int.natAbs_neg]; exact hb2)
  simp only [b_law_low]
  rw [evSs_cons, evS_par]
  simp only [evEs_cons, evEs_nil, evE_bi, evE_var, getS_z, getS_s, slV_p, bind_ok, bi_abs_i, of_some, parD_ok, setPar, setS_z, setS_s, nxO_some, thenS_nx]
  simp only [Bool.false_and, Bool.false_eq_true, if_false, setPar, nxO_some, thenS_nx, setS_s, setS_z]
  rw [evSs_cons, evS_whl, L]
  by_cases h : 0 < b
  · obtain ⟨n, rfl⟩ := Int.eq_ofNat_of_zero_le (Int.le_of_lt h)
    rw [divInt_pos (by omega)]
    rw [natAbs_ofNat'] at d1 d2
    have hn : 0 < n := by omega
    simp [op_gt_i, hn, op_fdiv_i d1, op_fdiv_i d2, fr, Rat.normalize_eq, fdiv_nn]
  · obtain ⟨n, hn⟩ := Int.eq_ofNat_of_zero_le (show 0 ≤ -b by omega)
    have hbn : b = -(n : Int) := by omega
    subst hbn
    have hn0 : n ≠ 0 := by omega
    have e : Rat.divInt t (-(n : Int)) = Rat.normalize (-t) n hn0 := by
      rw [← divInt_pos hn0]
      rw [Rat.divInt_neg']
    rw [e]
    have hnn : ¬ (0 < -(n : Int)) := by omega
    rw [Int.natAbs_neg, natAbs_ofNat'] at d3 d4
    rw [Int.neg_neg] at d4
    have hn2 : ¬ ((n : Int) < 0) := by omega
    simp [op_gt_i, hn2, op_fdiv_i d3, op_fdiv_i d4, fr, Rat.normalize_eq, fdiv_nn]

theorem ev_law_add (k : Nat) (a b : Rat) (g : Gs) (ha : Sm a) (hb : Sm b) : evF TT (k + 2) i_law_add [fr a, fr b] g = .ok (fr (a + b)) g := by
  rw [evF_s T_law_add, runF_eq rfl]
  show outR (evSs (evF TT (k + 1)) b_law_add [.p (fr a), .p (fr b)] g) = _
  have m1 : mulOk a.num b.den = true := mulOk_BB ha.num (by rw [natAbs_ofNat']; exact hb.den)
  have m2 : mulOk b.num a.den = true := mulOk_BB hb.num (by rw [natAbs_ofNat']; exact ha.den)
  have m3 : mulOk (a.den : Int) b.den = true := mulOk_BB (by rw [natAbs_ofNat']; exact ha.den) (by rw [natAbs_ofNat']; exact hb.den)
  have z : a.den * b.den ≠ 0 := Nat.mul_ne_zero a.den_nz b.den_nz
  have l := ev_law_low k (a.num * b.den + b.num * a.den) ((a.den * b.den : Nat) : Int) g (by omega) (by
    have h1 := mul_lt_BB ha.num hb.den
    have h2 := mul_lt_BB hb.num ha.den
    have h3 := Int.natAbs_add_le (a.num * b.den) (b.num * a.den)
    rw [Int.natAbs_mul, Int.natAbs_mul, natAbs_ofNat', natAbs_ofNat'] at h3
    have := p13400
    omega) (by
    have h1 := mul_lt_BB ha.den hb.den
    have := p13400
    rw [natAbs_ofNat']
    omega)
  rw [divInt_pos z, ← Rat.add_def] at l
  push_cast at l
  simp [b_law_add, fr, op_mul_i m1, op_mul_i m2, op_mul_i m3, op_add_i] at l ⊢
  rw [l]
  rfl
theorem ev_law_sub (k : Nat) (a b : Rat) (g : Gs) (ha : Sm a) (hb : Sm b) : evF TT (k + 2) i_law_sub [fr a, fr b] g = .ok (fr (a - b)) g := by
  rw [evF_s T_law_sub, runF_eq rfl]
  show outR (evSs (evF TT (k + 1)) b_law_sub [.p (fr a), .p (fr b)] g) = _
  have m1 : mulOk a.num b.den = true := mulOk_BB ha.num (by rw [natAbs_ofNat']; exact hb.den)
  have m2 : mulOk b.num a.den = true := mulOk_BB hb.num (by rw [natAbs_ofNat']; exact ha.den)
  have m3 : mulOk (a.den : Int) b.den = true := mulOk_BB (by rw [natAbs_ofNat']; exact ha.den) (by rw [natAbs_ofNat']; exact hb.den)
  have z : a.den * b.den ≠ 0 := Nat.mul_ne_zero a.den_nz b.den_nz
  have l := ev_law_low k (a.num * b.den - b.num * a.den) ((a.den * b.den : Nat) : Int) g (by omega) (by
    have h1 := mul_lt_BB ha.num hb.den
    have h2 := mul_lt_BB hb.num ha.den
    have h3 := Int.natAbs_add_le (a.num * b.den) (-(b.num * a.den))
    rw [Int.natAbs_neg, Int.natAbs_mul, Int.natAbs_mul, natAbs_ofNat', natAbs_ofNat'] at h3
    have := p13400
    rw [Int.sub_eq_add_neg]
    omega) (by
    have h1 := mul_lt_BB ha.den hb.den
    have := p13400
    rw [natAbs_ofNat']
    omega)
  rw [divInt_pos z, ← Rat.sub_def] at l
  push_cast at l
  simp [b_law_sub, fr, op_mul_i m1, op_mul_i m2, op_mul_i m3, op_sub_i] at l ⊢
  rw [l]
  rfl
theorem ev_law_mul (k : Nat) (a b : Rat) (g : Gs) (ha : Sm a) (hb : Sm b) : evF TT (k + 2) i_law_mul [fr a, fr b] g = .ok (fr (a * b)) g := by
  rw [evF_s T_law_mul, runF_eq rfl]
  show outR (evSs (evF TT (k + 1)) b_law_mul [.p (fr a), .p (fr b)] g) = _
  have m1 : mulOk a.num b.num = true := mulOk_BB ha.num hb.num
  have m3 : mulOk (a.den : Int) b.den = true := mulOk_BB (by rw [natAbs_ofNat']; exact ha.den) (by rw [natAbs_ofNat']; exact hb.den)
  have z : a.den * b.den ≠ 0 := Nat.mul_ne_zero a.den_nz b.den_nz
  have l := ev_law_low k (a.num * b.num) ((a.den * b.den : Nat) : Int) g (by omega) (by
    have h1 := mul_lt_BB ha.num hb.num
    rw [Int.natAbs_mul]
    have := p13400
    omega) (by
    have h1 := mul_lt_BB ha.den hb.den
    have := p13400
    rw [natAbs_ofNat']
    omega)
  rw [divInt_pos z, ← Rat.mul_def] at l
  push_cast at l
  simp [b_law_mul, fr, op_mul_i m1, op_mul_i m3] at l ⊢
  rw [l]
  rfl
end Rz
/-! RzM3 -/
set_option linter.all false
set_option maxRecDepth 100000
namespace Rz
/-! ### rows of a told length -/
def tf (n : Nat) (f : Nat → D) : D := .tup ((List.range n).map f)
def lf (n : Nat) (f : Nat → D) : D := .lst ((List.range n).map f)
theorem get_map (n : Nat) {α : Type} (f : Nat → α) (i : Nat) (h : i < n) : ((List.range n).map f)[i]? = some (f i) := by
  rw [List.getElem?_map, List.getElem?_range h]; rfl
theorem ix_tf {g : Gs} {n : Nat} {f : Nat → D} {i : Nat} (h : i < n) : ixD g (tf n f) (.int (i : Int)) = some (f i) := by
  unfold tf; rw [ix_tn, get_map n f i h]
theorem ix_lf {g : Gs} {n : Nat} {f : Nat → D} {i : Nat} (h : i < n) : ixD g (lf n f) (.int (i : Int)) = some (f i) := by
  unfold lf; rw [ix_ln, get_map n f i h]
theorem len_tf (n : Nat) (f : Nat → D) : bi .len [tf n f] = some (.int n) := by
  show some (D.int ((List.range n).map f).length) = _
  simp
theorem len_lf (n : Nat) (f : Nat → D) : bi .len [lf n f] = some (.int n) := by
  show some (D.int ((List.range n).map f).length) = _
  simp
theorem tuple_lf (n : Nat) (f : Nat → D) : bi .tuple [lf n f] = some (tf n f) := rfl
theorem tuple_tf (n : Nat) (f : Nat → D) : bi .tuple [tf n f] = some (tf n f) := rfl
theorem list_tf (n : Nat) (f : Nat → D) : bi .list [tf n f] = some (lf n f) := rfl
/-- d goes over f 0, f 1, .. (n of them) -/
def Sq (d : D) (n : Nat) (f : Nat → D) : Prop := seqOf d = some ((List.range n).map f)
theorem sq_tf (n : Nat) (f : Nat → D) : Sq (tf n f) n f := rfl
theorem sq_lf (n : Nat) (f : Nat → D) : Sq (lf n f) n f := rfl
theorem items_seq {d : D} {n : Nat} {f : Nat → D} (h : Sq d n f) : items .seq [d] = some ((List.range n).map f) := by
  cases d <;> first | exact h | cases h
theorem items_rng {n : Nat} (h : n ≤ 1000000) : items .rng [.int (n : Int)] = some ((List.range n).map fun (i : Nat) => D.int (i : Int)) := by
  show (if shortI (n : Int) = true then some (rangeI 0 (n : Int).toNat) else none) = _
  rw [if_pos (by unfold shortI; rw [Bool.and_eq_true]; exact ⟨decide_eq_true (by omega), decide_eq_true (by omega)⟩)]
  simp [rangeI]
theorem zip_map {α β : Type} (n : Nat) (f : Nat → α) (h : Nat → β) : ((List.range n).map f).zip ((List.range n).map h) = (List.range n).map fun i => (f i, h i) := by
  rw [List.zip_map']
theorem items_zip {d e : D} {n : Nat} {f h : Nat → D} (h1 : Sq d n f) (h2 : Sq e n h) : items .zip [d, e] = some ((List.range n).map fun i => D.tup [f i, h i]) := by
  show (match seqOf d, seqOf e with | some a, some b => some ((a.zip b).map fun (p : D × D) => D.tup [p.1, p.2]) | _, _ => none) = _
  rw [h1, h2]
  simp only [zip_map, List.map_map]
  rfl
theorem items_enum {d : D} {n : Nat} {f : Nat → D} (h1 : Sq d n f) : items .enum [d] = some ((List.range n).map fun (i : Nat) => D.tup [.int (i : Int), f i]) := by
  unfold Sq at h1
  simp only [items, h1]
  have : (List.range n) = (List.range n).map fun i => i := by simp
  simp only [List.length_map, List.length_range]
  rw [show ((List.range n).map f).zip (List.range n) = ((List.range n).map f).zip ((List.range n).map fun i => i) by rw [← this], zip_map, List.map_map]
  rfl
theorem lrange_n {n : Nat} (h : n ≤ 1000000) : bi .lrange [.int (n : Int)] = some (lf n fun (i : Nat) => .int (i : Int)) := by
  show (if (decide ((0 : Int) ≤ n) && Nat.ble (n : Int).toNat lineN) = true then some (D.lst (rangeI 0 (n : Int).toNat)) else none) = _
  rw [if_pos (by rw [Bool.and_eq_true]; exact ⟨decide_eq_true (by omega), Nat.ble_eq_true_of_le (by simpa [lineN] using h)⟩)]
  simp [rangeI, lf]
section
variable {C : Nat → List D → Gs → R D} {env : Env} {g : Gs}
theorem compL_map {f c : Env → Gs → R D} {t : Tg} {α : Type} (y : α → D) (enc : α → D) (hc : ∀ e g, c e g = .ok (.bl true) g) : ∀ (l : List α), (∀ a ∈ l, ∃ e1, bindT t (enc a) env = some e1 ∧ f e1 g = .ok (y a) g) →
    compL f c t (l.map enc) env g = .ok (l.map y) g
  | [], _ => rfl
  | a :: l, h => by
    obtain ⟨e1, h1, h2⟩ := h a (List.mem_cons_self ..)
    have ih := compL_map y enc hc l fun b hb => h b (List.mem_cons_of_mem _ hb)
    simp only [List.map_cons, compL, h1, hc, h2, ih]
theorem compD_n {e : Ex} {t : Tg} {n : Nat} {f : Nat → D} (y : Nat → D) (hn : n ≤ 1000000) (h : ∀ i, i < n → ∃ e1, bindT t (f i) (wipeS t.ix env) = some e1 ∧ evE C e e1 g = .ok (y i) g) :
    compD C e t [] env g (some ((List.range n).map f)) = .ok (lf n y) g := by
  unfold compD
  have hz : Nat.ble ((List.range n).map f).length lineN = true := Nat.ble_eq_true_of_le (by simpa [lineN] using hn)
  simp only [hz, if_true]
  have L := compL_map (f := fun env g => evE C e env g) (c := fun env g => evC C [] env g) (t := t) (env := wipeS t.ix env) (g := g) y f (fun _ _ => rfl) (List.range n) fun i hi => h i (List.mem_range.mp hi)
  rw [L]
  rfl
/-- a for over a range of n, by an invariant -/
theorem forL_n {b : Env → Gs → SR} {t : Tg} {f : Nat → D} (P : Nat → Env → Gs → Prop) (n : Nat) (h : ∀ i env g, i < n → P i env g → ∃ e1, bindT t (f i) env = some e1 ∧ ∃ env' g', (b e1 g = .nx env' g' ∨ b e1 g = .cnt env' g') ∧ P (i + 1) env' g') (h0 : P 0 env g) :
    ∃ env' g', forL b t ((List.range n).map f) env g = .nx env' g' ∧ P n env' g' := by
  have key : ∀ (m i : Nat) (env : Env) (g : Gs), i + m = n → P i env g → ∃ env' g', forL b t ((List.range' i m).map f) env g = .nx env' g' ∧ P n env' g' := by
    intro m
    induction m with
    | zero =>
      intro i env g hi hp
      have : i = n := by omega
      subst this
      exact ⟨env, g, rfl, hp⟩
    | succ m ih =>
      intro i env g hi hp
      obtain ⟨e1, h1, env', g', h2, h3⟩ := h i env g (by omega) hp
      obtain ⟨env2, g2, h4, h5⟩ := ih (i + 1) env' g' (by omega) h3
      refine ⟨env2, g2, ?_, h5⟩
      rw [List.range'_succ, List.map_cons]
      unfold forL
      rw [h1]
      rcases h2 with h2 | h2 <;> (simp only [h2]; exact h4)
  rw [List.range_eq_range']
  exact key n 0 env g (by omega) h0
end
/-! ### a part of a row replaced -/
def up {α : Type} (f : Nat → α) (p : Nat) (d : α) : Nat → α := fun i => if i = p then d else f i
theorem up_map {α : Type} (n : Nat) (f : Nat → α) (p : Nat) (d : α) (h : p < n) : ((List.range n).map f).take p ++ [d] ++ ((List.range n).map f).drop (p + 1) = (List.range n).map (up f p d) := by
  apply List.ext_getElem?
  intro j
  by_cases hj : j < n
  · rw [get_map n _ j hj]
    rcases Nat.lt_trichotomy j p with hl | he | hg
    · rw [List.append_assoc, List.getElem?_append_left (by simp; omega), List.getElem?_take_of_lt hl, get_map n f j hj]
      simp only [up]; rw [if_neg (by omega)]
    · subst he
      rw [List.append_assoc, List.getElem?_append_right (by simp only [List.length_take, List.length_map, List.length_range]; omega)]
      have e : j - (((List.range n).map f).take j).length = 0 := by simp only [List.length_take, List.length_map, List.length_range]; omega
      rw [e]
      simp [up]
    · rw [List.getElem?_append_right (by simp; omega)]
      simp only [List.length_append, List.length_take, List.length_map, List.length_range, List.length_cons, List.length_nil]
      rw [List.getElem?_drop]
      have e : p + 1 + (j - (min p n + (0 + 1))) = j := by omega
      rw [e, get_map n f j hj]
      simp only [up]; rw [if_neg (by omega)]
  · rw [List.getElem?_eq_none (by simp; omega), List.getElem?_eq_none (by simp; omega)]
theorem T_with_part : TT i_with_part = some d_with_part := rfl
theorem slice_hi (ds : List D) (p : Nat) (h : p ≤ ds.length) : slD .hi (.tup ds) [.int (p : Int)] = some (.tup (ds.take p)) := by
  show some (D.tup (cut ds none (some (p : Int)))) = _
  unfold cut sIx
  simp only [Nat.sub_zero, List.drop_zero]
  rw [if_neg (by omega)]
  congr 3
  omega
theorem slice_lo (ds : List D) (p : Nat) (h : p ≤ ds.length) : slD .lo (.tup ds) [.int (p : Int)] = some (.tup (ds.drop p)) := by
  show some (D.tup (cut ds (some (p : Int)) none)) = _
  unfold cut sIx
  simp only
  rw [if_neg (by omega)]
  have e : min (p : Int).toNat ds.length = p := by omega
  rw [e, List.take_of_length_le (by simp)]
theorem op_add_t {a b : List D} (h : a.length + b.length ≤ 1000000) : op2 .add (.tup a) (.tup b) = some (.tup (a ++ b)) := if_pos (Nat.ble_eq_true_of_le h)
theorem op_add_l {a b : List D} (h : a.length + b.length ≤ 1000000) : op2 .add (.lst a) (.lst b) = some (.lst (a ++ b)) := if_pos (Nat.ble_eq_true_of_le h)
theorem ev_with_part (k n p : Nat) (f : Nat → D) (d : D) (g : Gs) (h : p < n) (hn : n ≤ 1000) : evF TT (k + 1) i_with_part [tf n f, .int (p : Int), d] g = .ok (tf n (up f p d)) g := by
  rw [evF_s T_with_part, runF_eq rfl]
  show outR (evSs (evF TT k) b_with_part [.p (tf n f), .p (.int (p : Int)), .p d] g) = _
  have h1 := slice_hi ((List.range n).map f) p (by simp; omega)
  have h2 := slice_lo ((List.range n).map f) (p + 1) (by simp; omega)
  push_cast at h2
  have h3 := op_add_t (a := ((List.range n).map f).take p) (b := [d]) (by simp; omega)
  have h4 := op_add_t (a := ((List.range n).map f).take p ++ [d]) (b := ((List.range n).map f).drop (p + 1)) (by simp; omega)
  rw [up_map n f p d h] at h4
  simp only [b_with_part, tf, evSs_cons, evS_ret, evE_op, evE_sl, evE_var, getS_z, getS_s, slV_p, bind_ok, evIs_cons, evIs_nil, toI_int, h1, h2, h3, h4, of_some, evE_tup, evEs_cons, evEs_nil, evE_lit, op_add_i, to_ok, thenS_ret, outR_ret]
/-! ### sums -/
def sumN : Nat → (Nat → Rat) → Rat
  | 0, _ => 0
  | n + 1, x => sumN n x + x n
theorem T_sum_of : TT i_sum_of = some d_sum_of := rfl
theorem T_dot : TT i_dot = some d_dot := rfl
theorem T_law_all : TT i_law_all = some d_law_all := rfl
theorem T_law_led : TT i_law_led = some d_law_led := rfl
theorem T_idle_table : TT i_idle_table = some d_idle_table := rfl
/-- the sums on the way may be reckoned with -/
structure SmS (n : Nat) (x : Nat → Rat) : Prop where
  part : ∀ i, i < n → Sm (x i)
  sum : ∀ i, i ≤ n → Sm (sumN i x)
theorem fr_zero : fr 0 = .tup [.int 0, .int 1] := rfl
theorem fr_one : fr 1 = .tup [.int 1, .int 1] := rfl
theorem sum_loop {C : Nat → List D → Gs → R D} {f : Nat} {env : Env} {g : Gs} {n : Nat} {x : Nat → Rat} {d : D} (hC : ∀ a b g, Sm a → Sm b → C f [fr a, fr b] g = .ok (fr (a + b)) g) (hs : SmS n x) (h0 : env = [.p d, .p (fr 0), .u]) :
    ∃ y, forL (bodyOf C [.asg 1 (.call f [.var 1, .var 2])]) (.nm 2) ((List.range n).map fun i => fr (x i)) env g = .nx [.p d, .p (fr (sumN n x)), y] g := by
  obtain ⟨env', g', h1, h2⟩ := forL_n (b := bodyOf C [.asg 1 (.call f [.var 1, .var 2])]) (t := .nm 2) (f := fun i => fr (x i)) (env := env) (g := g) (fun i e g' => g' = g ∧ ∃ y, e = [.p d, .p (fr (sumN i x)), y]) n (fun i e g' hi ⟨hg, y, he⟩ => by
    subst he hg
    refine ⟨_, rfl, [.p d, .p (fr (sumN (i + 1) x)), .p (fr (x i))], g', .inl ?_, rfl, _, rfl⟩
    simp [bodyOf_eq, hC _ _ _ (hs.sum i (by omega)) (hs.part i hi), sumN, setS]) ⟨rfl, .u, h0⟩
  obtain ⟨hg, y, he⟩ := h2
  subst he hg
  exact ⟨y, h1⟩
theorem ev_sum_of (k n : Nat) (x : Nat → Rat) (d : D) (g : Gs) (hd : Sq d n fun i => fr (x i)) (hs : SmS n x) : evF TT (k + 4) i_sum_of [d] g = .ok (fr (sumN n x)) g := by
  rw [evF_s T_sum_of, runF_eq rfl]
  obtain ⟨y, L⟩ := sum_loop (C := evF TT (k + 3)) (f := i_plus) (g := g) (d := d) (fun a b g ha hb => ev_plus k a b g ha hb) hs rfl
  show outR (evSs (evF TT (k + 3)) b_sum_of [.p d, .u, .u] g) = _
  rw [fr_zero] at L
  simp [b_sum_of, items_seq hd, L]
theorem ev_law_all (k n : Nat) (x : Nat → Rat) (d : D) (g : Gs) (hd : Sq d n fun i => fr (x i)) (hs : SmS n x) : evF TT (k + 3) i_law_all [d] g = .ok (fr (sumN n x)) g := by
  rw [evF_s T_law_all, runF_eq rfl]
  obtain ⟨y, L⟩ := sum_loop (C := evF TT (k + 2)) (f := i_law_add) (g := g) (d := d) (fun a b g ha hb => ev_law_add k a b g ha hb) hs rfl
  show outR (evSs (evF TT (k + 2)) b_law_all [.p d, .u, .u] g) = _
  rw [fr_zero] at L
  simp [b_law_all, items_seq hd, L]
end Rz
/-! RzM4 -/
set_option linter.all false
set_option maxRecDepth 100000
namespace Rz
/-! ### rows, tables -/
def row (n : Nat) (x : Nat → Rat) : D := tf n fun i => fr (x i)
def tab (n m : Nat) (A : Nat → Nat → Rat) : D := tf n fun i => row m (A i)
structure SmD (n : Nat) (a b : Nat → Rat) : Prop where
  pa : ∀ i, i < n → Sm (a i)
  pb : ∀ i, i < n → Sm (b i)
  ps : SmS n fun i => a i * b i
theorem ev_dot (k n : Nat) (a b : Nat → Rat) (d e : D) (g : Gs) (hn : n ≤ 1000) (hd : Sq d n fun i => fr (a i)) (he : Sq e n fun i => fr (b i)) (h : SmD n a b) : evF TT (k + 5) i_dot [d, e] g = .ok (fr (sumN n fun i => a i * b i)) g := by
  rw [evF_s T_dot, runF_eq rfl]
  show outR (evSs (evF TT (k + 4)) b_dot [.p d, .p e, .u, .u] g) = _
  have c : compD (evF TT (k + 4)) (.call i_times [.var 2, .var 3]) (.tp [.nm 2, .nm 3]) [] [.p d, .p e, .u, .u] g (some ((List.range n).map fun i => .tup [fr (a i), fr (b i)])) = .ok (lf n fun i => fr (a i * b i)) g :=
    compD_n (fun i => fr (a i * b i)) (by omega) fun i hi => ⟨[.p d, .p e, .p (fr (a i)), .p (fr (b i))], rfl, by simp [ev_times (k + 1) (a i) (b i) g (h.pa i hi) (h.pb i hi)]⟩
  have s := ev_sum_of k n (fun i => a i * b i) (lf n fun i => fr (a i * b i)) g (sq_lf _ _) h.ps
  simp [b_dot, items_zip hd he, c, s]
theorem tf_snoc (i : Nat) (f : Nat → D) : (List.range i).map f ++ [f i] = (List.range (i + 1)).map f := by
  rw [List.range_succ, List.map_append]; rfl
theorem ev_law_led (k n m : Nat) (x : Nat → Rat) (A : Nat → Nat → Rat) (g : Gs) (hn : n ≤ 1000) (hm : n ≤ m) (h : ∀ j, j < n → SmD n x fun i => A i j) :
    evF TT (k + 4) i_law_led [row n x, tab n m A] g = .ok (row n fun j => sumN n fun i => x i * A i j) g := by
  rw [evF_s T_law_led, runF_eq rfl]
  show outR (evSs (evF TT (k + 3)) b_law_led [.p (row n x), .p (tab n m A), .u, .u, .u, .u, .u] g) = _
  have hl : bi .len [tab n m A] = some (.int n) := len_tf _ _
  obtain ⟨env', g', h1, h2⟩ := forL_n (t := .nm 3) (f := fun (j : Nat) => D.int (j : Int)) (b := bodyOf (evF TT (k + 3)) [.asg 4 (.comp (.call i_law_mul [.var 5, .ix (.var 6) (.var 3)]) (.tp [(.nm 5), (.nm 6)]) .zip [.var 0, .var 1] []), .asg 2 (.op .add (.var 2) (.tup [.call i_law_all [.var 4]]))])
    (env := [.p (row n x), .p (tab n m A), .p (.tup []), .u, .u, .u, .u]) (g := g)
    (fun j e g' => g' = g ∧ ∃ y z, e = [.p (row n x), .p (tab n m A), .p (tf j fun j => fr (sumN n fun i => x i * A i j)), y, z, .u, .u]) n (fun j e g' hj ⟨hg, y, z, he⟩ => by
      subst he hg
      have c : compD (evF TT (k + 3)) (.call i_law_mul [.var 5, .ix (.var 6) (.var 3)]) (.tp [.nm 5, .nm 6]) [] [.p (row n x), .p (tab n m A), .p (tf j fun j => fr (sumN n fun i => x i * A i j)), .p (.int j), z, .u, .u] g' (some ((List.range n).map fun i => .tup [fr (x i), row m (A i)])) = .ok (lf n fun i => fr (x i * A i j)) g' :=
        compD_n (fun i => fr (x i * A i j)) (by omega) fun i hi => ⟨[.p (row n x), .p (tab n m A), .p (tf j fun j => fr (sumN n fun i => x i * A i j)), .p (.int j), z, .p (fr (x i)), .p (row m (A i))], rfl, by
          have : ixD g' (row m (A i)) (.int j) = some (fr (A i j)) := ix_tf (by omega)
          simp [this, ev_law_mul (k + 1) (x i) (A i j) g' ((h j hj).pa i hi) ((h j hj).pb i hi)]⟩
      have s := ev_law_all k n (fun i => x i * A i j) (lf n fun i => fr (x i * A i j)) g' (sq_lf _ _) (h j hj).ps
      have hz : items .zip [row n x, tab n m A] = some ((List.range n).map fun i => .tup [fr (x i), row m (A i)]) := items_zip (sq_tf _ _) (sq_tf _ _)
      have ha : op2 .add (tf j fun j => fr (sumN n fun i => x i * A i j)) (.tup [fr (sumN n fun i => x i * A i j)]) = some (tf (j + 1) fun j => fr (sumN n fun i => x i * A i j)) := by
        rw [tf, op_add_t (by simp; omega), tf_snoc j fun j => fr (sumN n fun i => x i * A i j)]; rfl
      refine ⟨[.p (row n x), .p (tab n m A), .p (tf j fun j => fr (sumN n fun i => x i * A i j)), .p (.int j), z, .u, .u], rfl, [.p (row n x), .p (tab n m A), .p (tf (j + 1) fun j => fr (sumN n fun i => x i * A i j)), .p (.int j), .p (lf n fun i => fr (x i * A i j)), .u, .u], g', .inl ?_, rfl, _, _, rfl⟩
      simp [bodyOf_eq, hz, c, s, ha]) ⟨rfl, .u, .u, rfl⟩
  obtain ⟨hg, y, z, he⟩ := h2
  subst he hg
  simp [b_law_led, hl, items_rng (show n ≤ 1000000 by omega), h1]
  rfl
def idN (i j : Nat) : Rat := if i = j then 1 else 0
theorem fr_id (i j : Nat) : fr (idN i j) = .tup [.int (if i = j then 1 else 0), .int 1] := by
  unfold idN
  by_cases h : i = j <;> simp [h] <;> rfl
theorem ev_idle (k n : Nat) (g : Gs) (hn : n ≤ 1000) : evF TT (k + 1) i_idle_table [.int n] g = .ok (tab n n idN) g := by
  rw [evF_s T_idle_table, runF_eq rfl]
  show outR (evSs (evF TT k) b_idle_table [.p (.int n), .u, .u] g) = _
  have hr := lrange_n (show n ≤ 1000000 by omega)
  have hi : items .seq [lf n fun (i : Nat) => .int (i : Int)] = some ((List.range n).map fun (i : Nat) => D.int (i : Int)) := items_seq (sq_lf _ _)
  have c : compD (evF TT k) (.bi .tuple [.comp (.tup [.bi .int [.op .eq (.var 2) (.var 1)], .lit (.int 1)]) (.nm 1) .seq [.bi .lrange [.var 0]] []]) (.nm 2) [] [.p (.int n), .u, .u] g (some ((List.range n).map fun (i : Nat) => D.int (i : Int))) = .ok (lf n fun i => row n (idN i)) g :=
    compD_n (fun i => row n (idN i)) (by omega) fun i hi' => ⟨[.p (.int n), .u, .p (.int i)], rfl, by
      have c2 : compD (evF TT k) (.tup [.bi .int [.op .eq (.var 2) (.var 1)], .lit (.int 1)]) (.nm 1) [] [.p (.int n), .u, .p (.int i)] g (some ((List.range n).map fun (i : Nat) => D.int (i : Int))) = .ok (lf n fun j => fr (idN i j)) g :=
        compD_n (fun j => fr (idN i j)) (by omega) fun j hj => ⟨[.p (.int n), .p (.int j), .p (.int i)], rfl, by
          have hb : bi .int [.bl (decide ((i : Int) = j))] = some (.int (if i = j then 1 else 0)) := by
            show some (D.int (if decide ((i : Int) = j) = true then 1 else 0)) = _
            by_cases h : i = j <;> simp [h]
            omega
          simp [op_eq_i, hb, fr_id]⟩
      have ht : bi .tuple [lf n fun j => fr (idN i j)] = some (row n (idN i)) := tuple_lf _ _
      simp [hr, hi, c2, ht]⟩
  have ht : bi .tuple [lf n fun i => row n (idN i)] = some (tab n n idN) := tuple_lf _ _
  simp [b_idle_table, hr, hi, c, ht]
end Rz
/-! RzM5 -/
set_option linter.all false
set_option maxRecDepth 100000
set_option exponentiation.threshold 20000
namespace Rz
/-- the sieve at m: two numbers -/
def Sv (g : Gs) (m : Nat) : Prop := ∃ a b : Nat, g[m]? = some [.int a, .int b] ∧ b < 2147482811
theorem T_law_sieve : TT i_law_sieve = some d_law_sieve := rfl
theorem T_law_sift : TT i_law_sift = some d_law_sift := rfl
theorem T_law_some : TT i_law_some = some d_law_some := rfl
section
variable {C : Nat → List D → Gs → R D} {env : Env} {g : Gs}
theorem setx_cell {i m : Nat} {j e : Ex} {d : D} {n : Nat} {ds : List D} {g1 g2 : Gs} (h1 : evE C e env g = .ok d g1) (hs : getS env i = .p (.mref m)) (h2 : evE C j env g1 = .ok (.int (n : Int)) g2) (hg : g2[m]? = some ds) (hn : n < ds.length) (hd : D.noL d = true) :
    evS C (.setx i j e) env g = .nx env (g2.set m (ds.set n d)) := by
  show (evE C e env g).to env _ = _
  rw [h1]
  show (match getS env i with | .o (.lst ds) => _ | .o (.dic ks vs) => _ | .p (.mref a) => _ | _ => _) = _
  rw [hs]
  show (evE C j env g1).to env _ = _
  rw [h2]
  show (match g2[m]? with | some ds => (match ixN ds.length (n : Int) with | some mm => if D.noL d then SR.nx env (g2.set m (ds.set mm d)) else .no | none => .no) | none => .no) = _
  rw [hg]
  have : ixN ds.length (n : Int) = some n := by
    unfold ixN
    rw [if_pos (by omega), if_pos (by omega)]; simp
  simp only [this, hd, if_true]
theorem setx_own {i : Nat} {j e : Ex} {d : D} {n : Nat} {ds : List D} {g1 g2 : Gs} (h1 : evE C e env g = .ok d g1) (hs : getS env i = .o (.lst ds)) (h2 : evE C j env g1 = .ok (.int (n : Int)) g2) (hn : n < ds.length) :
    evS C (.setx i j e) env g = .nx (setS env i (.o (.lst (ds.set n d)))) g2 := by
  show (evE C e env g).to env _ = _
  rw [h1]
  show (match getS env i with | .o (.lst ds) => _ | .o (.dic ks vs) => _ | .p (.mref a) => _ | _ => _) = _
  rw [hs]
  show (evE C j env g1).to env _ = _
  rw [h2]
  show (match ixN ds.length (n : Int) with | some mm => SR.nx (setS env i (.o (.lst (ds.set mm d)))) g2 | none => .no) = _
  have : ixN ds.length (n : Int) = some n := by
    unfold ixN
    rw [if_pos (by omega), if_pos (by omega)]; simp
  simp only [this]
end
theorem ix_m0 {g : Gs} {m : Nat} {a b : D} (h : g[m]? = some [a, b]) : ixD g (.mref m) (.int 0) = some a := by
  show (match g[m]? with | some ds => atI ds 0 | none => none) = _
  rw [h]
  exact atI_nat [a, b] 0
theorem ix_m1 {g : Gs} {m : Nat} {a b : D} (h : g[m]? = some [a, b]) : ixD g (.mref m) (.int 1) = some b := by
  show (match g[m]? with | some ds => atI ds 1 | none => none) = _
  rw [h]
  exact atI_nat [a, b] 1
theorem bi_int_i (i : Int) : bi .int [.int i] = some (.int i) := rfl
theorem op_fdiv_n (a b : Nat) (h : b ≠ 0) (hb : b < 2 ^ 9000) : op2 .fdiv (.int a) (.int b) = some (.int ((a / b : Nat) : Int)) := by
  rw [op_fdiv_i (divOk_small (by omega) (by simpa using hb)), fdiv_nn]; rfl
theorem op_mul_n (a b : Nat) (n m : Nat) (h1 : a < 2 ^ n) (h2 : b < 2 ^ m) (hn : 0 < n) (hm : 0 < m) (h : n + m ≤ 100000000) : op2 .mul (.int a) (.int b) = some (.int ((a * b : Nat) : Int)) := by
  rw [op_mul_i (mulOk_of (n := n) (m := m) (by simpa using h1) (by simpa using h2) hn hm h)]; rfl
theorem ev_sift (k m w : Nat) (g : Gs) (hs : Sv g m) (hw : 0 < w) (hw2 : w < 2 ^ 9000) : ∃ (r : Nat) (g' : Gs), evF TT (k + 1) i_law_sift [.mref m, .int (w : Int)] g = .ok (.int (r : Int)) g' ∧ r < w ∧ Sv g' m := by
  obtain ⟨a, b, hg, hb⟩ := hs
  have hm : m < g.length := (List.getElem?_eq_some_iff.mp hg).1
  rw [evF_s T_law_sift, runF_eq rfl]
  show ∃ (r : Nat) (g' : Gs), outR (evSs (evF TT k) b_law_sift [.p (.mref m), .p (.int (w : Int)), .u, .u] g) = _ ∧ _ ∧ _
  have i0 := ix_m0 hg
  have i1 := ix_m1 hg
  by_cases ha : 0 < a
  · refine ⟨a % w, g.set m [.int ((a / w : Nat) : Int), .int b], ?_, Nat.mod_lt _ hw, ⟨a / w, b, by simp [hm], hb⟩⟩
    have hlt : decide ((0 : Int) < (a : Int)) = true := decide_eq_true (by omega)
    rw [b_law_sift, evSs_cons, evS_ite]
    simp only [evE_op, evE_ix, evE_var, evE_lit, getS_z, getS_s, slV_p, bind_ok, i0, of_some, op_gt_i, hlt, to_ok, iteD_bl, if_true]
    have e1 : evE (evF TT k) (.op .fdiv (.bi .int [.ix (.var 0) (.lit (.int 0))]) (.var 1)) [.p (.mref m), .p (.int w), .p (.int ((a % w : Nat) : Int)), .u] g = .ok (.int ((a / w : Nat) : Int)) g := by
      simp only [evE_op, evE_bi, evEs_cons, evEs_nil, evE_ix, evE_var, evE_lit, getS_z, getS_s, slV_p, bind_ok, i0, of_some, bi_int_i, op_fdiv_n a w (by omega) hw2]
    have e2 := setx_cell (C := evF TT k) (i := 0) (j := .lit (.int 0)) (n := 0) e1 rfl rfl hg (by simp) rfl
    rw [evSs_cons, evS_asg]
    simp only [evE_op, evE_bi, evEs_cons, evEs_nil, evE_ix, evE_var, evE_lit, getS_z, getS_s, slV_p, bind_ok, i0, of_some, bi_int_i, op_mod_n a w (by omega), to_ok, setS_z, setS_s, thenS_nx]
    rw [evSs_cons, e2]
    simp only [thenS_nx, evSs_cons, evS_ret, evE_var, getS_z, getS_s, slV_p, to_ok, thenS_ret, outR_ret]
    rfl
  · have ha0 : a = 0 := by omega
    subst ha0
    have p0 : (2147482811 : Nat) ≠ 0 := by decide
    obtain ⟨b1, hb1e⟩ : ∃ b1, b1 = (b * 40009 + 1013) % 2147482811 := ⟨_, rfl⟩
    have hb1 : b1 < 2147482811 := by rw [hb1e]; exact Nat.mod_lt _ (by decide)
    obtain ⟨st, hst⟩ : ∃ st, st = b1 * (b1 / 29 + 31) % 2147482763 := ⟨_, rfl⟩
    have i0' : ixD g (.mref m) (.int 0) = some (.int 0) := i0
    have hlt : op2 .gt (.int 0) (.int 0) = some (.bl false) := rfl
    have m1 := op_mul_n b 40009 32 32 (by omega) (by decide) (by decide) (by decide) (by decide)
    have a1 : op2 .add (.int ((b * 40009 : Nat) : Int)) (.int 1013) = some (.int ((b * 40009 + 1013 : Nat) : Int)) := congrArg some (congrArg D.int (by omega))
    have m2 : op2 .mod (.int ((b * 40009 + 1013 : Nat) : Int)) (.int 2147482811) = some (.int (b1 : Nat)) := by rw [hb1e]; exact op_mod_n (b * 40009 + 1013) 2147482811 (by decide)
    have m1' : op2 .mul (.int (b : Int)) (.int 40009) = some (.int ((b * 40009 : Nat) : Int)) := m1
    have e1 : evE (evF TT k) (.op .mod (.bi .int [.op .add (.op .mul (.ix (.var 0) (.lit (.int 1))) (.lit (.int 40009))) (.lit (.int 1013))]) (.lit (.int 2147482811))) [.p (.mref m), .p (.int w), .u, .u] g = .ok (.int (b1 : Nat)) g := by
      rw [evE_op, evE_bi, evEs_cons, evE_op, evE_op, evE_ix, evE_var, getS_z, slV_p, bind_ok, evE_lit, bind_ok, i1, of_some, bind_ok, evE_lit, bind_ok, m1', of_some, bind_ok, evE_lit, bind_ok, a1, of_some, bind_ok, evEs_nil, bind_ok, bind_ok, bi_int_i, of_some, bind_ok, evE_lit, bind_ok, m2, of_some]
    have e2 := setx_cell (C := evF TT k) (i := 0) (j := .lit (.int 1)) (n := 1) e1 rfl rfl hg (by simp) rfl
    have hg2 : (g.set m ([D.int ((0 : Nat) : Int), D.int b].set 1 (.int (b1 : Nat))))[m]? = some [.int ((0 : Nat) : Int), .int (b1 : Nat)] := by simp [hm]
    generalize hge : g.set m ([D.int ((0 : Nat) : Int), D.int b].set 1 (.int (b1 : Nat))) = g2 at hg2 e2
    have i2 := ix_m1 hg2
    have f1 : op2 .fdiv (.int (b1 : Nat)) (.int 29) = some (.int ((b1 / 29 : Nat) : Int)) := op_fdiv_n b1 29 (by decide) (by decide)
    have a2 : op2 .add (.int ((b1 / 29 : Nat) : Int)) (.int 31) = some (.int ((b1 / 29 + 31 : Nat) : Int)) := congrArg some (congrArg D.int (by omega))
    have m3 := op_mul_n b1 (b1 / 29 + 31) 32 32 (by omega) (by omega) (by decide) (by decide) (by decide)
    have m4 : op2 .mod (.int ((b1 * (b1 / 29 + 31) : Nat) : Int)) (.int 2147482763) = some (.int (st : Nat)) := by rw [hst]; exact op_mod_n (b1 * (b1 / 29 + 31)) 2147482763 (by decide)
    have f2 : op2 .fdiv (.int (st : Nat)) (.int 27) = some (.int ((st / 27 : Nat) : Int)) := op_fdiv_n st 27 (by decide) (by decide)
    have m5 := op_mod_n (st / 27) w (by omega)
    refine ⟨st / 27 % w, g2, ?_, Nat.mod_lt _ hw, ⟨0, b1, hg2, hb1⟩⟩
    have e0 : evS (evF TT k) (.ite (.op .gt (.ix (.var 0) (.lit (.int 0))) (.lit (.int 0))) [.asg 2 (.op .mod (.bi .int [.ix (.var 0) (.lit (.int 0))]) (.var 1)), .setx 0 (.lit (.int 0)) (.op .fdiv (.bi .int [.ix (.var 0) (.lit (.int 0))]) (.var 1)), .ret (.var 2)] []) [.p (.mref m), .p (.int w), .u, .u] g = .nx [.p (.mref m), .p (.int w), .u, .u] g := by
      rw [evS_ite, evE_op, evE_ix, evE_var, getS_z, slV_p, bind_ok, evE_lit, bind_ok, i0', of_some, bind_ok, evE_lit, bind_ok, hlt, of_some, to_ok, iteD_bl, if_neg Bool.false_ne_true, evSs_nil]
    have e3 : evS (evF TT k) (.asg 3 (.op .mod (.op .mul (.bi .int [.ix (.var 0) (.lit (.int 1))]) (.op .add (.op .fdiv (.bi .int [.ix (.var 0) (.lit (.int 1))]) (.lit (.int 29))) (.lit (.int 31)))) (.lit (.int 2147482763)))) [.p (.mref m), .p (.int w), .u, .u] g2 = .nx [.p (.mref m), .p (.int w), .u, .p (.int (st : Nat))] g2 := by
      rw [evS_asg, evE_op, evE_op, evE_bi, evEs_cons, evE_ix, evE_var, getS_z, slV_p, bind_ok, evE_lit, bind_ok, i2, of_some, bind_ok, evEs_nil, bind_ok, bind_ok, bi_int_i, of_some, bind_ok, evE_op, evE_op, evE_bi, evEs_cons, evE_ix, evE_var, getS_z, slV_p, bind_ok, evE_lit, bind_ok, i2, of_some, bind_ok, evEs_nil, bind_ok, bind_ok, bi_int_i, of_some, bind_ok, evE_lit, bind_ok, f1, of_some, bind_ok, evE_lit, bind_ok, a2, of_some, bind_ok, m3, of_some, bind_ok, evE_lit, bind_ok, m4, of_some, to_ok]
      rfl
    have e4 : evE (evF TT k) (.op .mod (.bi .int [.op .fdiv (.bi .int [.var 3]) (.lit (.int 27))]) (.var 1)) [.p (.mref m), .p (.int w), .u, .p (.int (st : Nat))] g2 = .ok (.int ((st / 27 % w : Nat) : Int)) g2 := by
      simp only [evE_op, evE_bi, evEs_cons, evEs_nil, evE_var, evE_lit, getS_z, getS_s, slV_p, bind_ok, bi_int_i, of_some, f2, m5]
    rw [b_law_sift, evSs_cons, e0, thenS_nx, evSs_cons, e2, thenS_nx, evSs_cons, e3, thenS_nx, evSs_cons, evS_ret, e4, to_ok, thenS_ret, outR_ret]

theorem sift_n (k m w : Nat) (g : Gs) (hs : Sv g m) (hw : 0 < w) (hw2 : w < 1000000) : ∃ (r : Nat) (g' : Gs), evF TT (k + 1) i_law_sift [.mref m, .int (w : Int)] g = .ok (.int (r : Int)) g' ∧ r < w ∧ Sv g' m :=
  ev_sift k m w g hs hw (Nat.lt_of_lt_of_le hw2 (Nat.le_trans (by decide : 1000000 ≤ 2 ^ 20) (Nat.pow_le_pow_right (by decide) (by decide))))
theorem some_l (k m : Nat) (l : List D) (g : Gs) (hs : Sv g m) (hn : 0 < l.length) (hn2 : l.length < 1000) : ∃ (d : D) (g' : Gs), evF TT (k + 2) i_law_some [.mref m, .lst l] g = .ok d g' ∧ d ∈ l ∧ Sv g' m := by
  obtain ⟨r, g', h1, h2, h3⟩ := sift_n k m l.length g hs hn (by omega)
  have e : l[r]? = some l[r] := List.getElem?_eq_getElem h2
  refine ⟨l[r], g', ?_, List.getElem_mem h2, h3⟩
  rw [evF_s T_law_some, runF_eq rfl]
  show outR (evSs (evF TT (k + 1)) b_law_some [.p (.mref m), .p (.lst l)] g) = _
  have i : ixD g' (.lst l) (.int (r : Int)) = some l[r] := by rw [ix_ln, e]
  have hl : bi .len [.lst l] = some (.int (l.length : Int)) := rfl
  simp only [b_law_some, evSs_cons, evSs_nil, evS_ret, evE_ix, evE_call, evEs_cons, evEs_nil, evE_bi, evE_var, getS_z, getS_s, slV_p, bind_ok, hl, of_some, h1, i, to_ok, thenS_ret, outR_ret]
/-- a new sieve -/
theorem ev_sieve (k : Nat) (ns : List Int) (i : Nat) (g : Gs) (hi : i < 1000) : ∃ a b : Nat, evF TT (k + 1) i_law_sieve [.scr (ns.map D.int), .int (i : Int)] g = .ok (.lst [.int a, .int b]) g ∧ b < 2147482811 := by
  rw [evF_s T_law_sieve, runF_eq rfl]
  show ∃ a b : Nat, outR (evSs (evF TT k) b_law_sieve [.p (.scr (ns.map D.int)), .p (.int (i : Int)), .u] g) = _ ∧ _
  have e1 : ∃ cell : Nat, evE (evF TT k) (.ite (.op .lt (.var 1) (.bi .len [.var 0])) (.bi .abs [.bi .int [.ix (.var 0) (.var 1)]]) (.op .add (.op .mul (.lit (.int 47)) (.var 1)) (.lit (.int 23)))) [.p (.scr (ns.map D.int)), .p (.int (i : Int)), .u] g = .ok (.int cell) g := by
    have hl : bi .len [.scr (ns.map D.int)] = some (.int (ns.length : Int)) := by
      show some (D.int ((ns.map D.int).length : Int)) = _
      rw [List.length_map]
    by_cases h : i < ns.length
    · refine ⟨(ns[i]).natAbs, ?_⟩
      have hx : ixD g (.scr (ns.map D.int)) (.int (i : Int)) = some (.int ns[i]) := by
        show atI (ns.map D.int) (i : Int) = _
        rw [atI_nat, List.getElem?_map, List.getElem?_eq_getElem h]; rfl
      have hlt : decide ((i : Int) < (ns.length : Int)) = true := decide_eq_true (by omega)
      simp only [evE_ite, evE_op, evE_bi, evEs_cons, evEs_nil, evE_ix, evE_var, getS_z, getS_s, slV_p, bind_ok, hl, of_some, op_lt_i, hlt, iteD_bl, if_true, hx, bi_int_i, bi_abs_i]
    · refine ⟨47 * i + 23, ?_⟩
      have hlt : decide ((i : Int) < (ns.length : Int)) = false := decide_eq_false (by omega)
      have m : op2 .mul (.int 47) (.int (i : Int)) = some (.int ((47 * i : Nat) : Int)) := op_mul_n 47 i 32 32 (by decide) (by omega) (by decide) (by decide) (by decide)
      have a : op2 .add (.int ((47 * i : Nat) : Int)) (.int 23) = some (.int ((47 * i + 23 : Nat) : Int)) := congrArg some (congrArg D.int (by omega))
      simp only [evE_ite, evE_op, evE_bi, evEs_cons, evEs_nil, evE_ix, evE_var, evE_lit, getS_z, getS_s, slV_p, bind_ok, hl, of_some, op_lt_i, hlt, iteD_bl, Bool.false_eq_true, if_false, m, a]
  obtain ⟨cell, e1⟩ := e1
  have p1 : op2 .pow (.int 10) (.int 18) = some (.int (1000000000000000000 : Nat)) := by rfl
  have hge : op2 .ge (.int (cell : Int)) (.int (1000000000000000000 : Nat)) = some (.bl (decide (1000000000000000000 ≤ cell))) := by
    rw [op_ge_i]
    congr 2
    by_cases h : 1000000000000000000 ≤ cell
    · rw [decide_eq_true h]; exact decide_eq_true (by omega)
    · rw [decide_eq_false h]; exact decide_eq_false (by omega)
  obtain ⟨c1, hc1⟩ : ∃ c1, c1 = cell % 2147482811 := ⟨_, rfl⟩
  have hc2 : c1 < 2147482811 := by rw [hc1]; exact Nat.mod_lt _ (by decide)
  have m1 : op2 .mod (.int (cell : Int)) (.int 2147482811) = some (.int (c1 : Int)) := by rw [hc1]; exact op_mod_n cell 2147482811 (by decide)
  have m2 : op2 .mul (.int 70001) (.int (i : Int)) = some (.int ((70001 * i : Nat) : Int)) := op_mul_n 70001 i 32 32 (by decide) (by omega) (by decide) (by decide) (by decide)
  have a1 : op2 .add (.int (c1 : Int)) (.int ((70001 * i : Nat) : Int)) = some (.int ((c1 + 70001 * i : Nat) : Int)) := congrArg some (congrArg D.int (by omega))
  have a2 : op2 .add (.int ((c1 + 70001 * i : Nat) : Int)) (.int 89) = some (.int ((c1 + 70001 * i + 89 : Nat) : Int)) := congrArg some (congrArg D.int (by omega))
  obtain ⟨b, hb⟩ : ∃ b, b = (c1 + 70001 * i + 89) % 2147482811 := ⟨_, rfl⟩
  have m3 : op2 .mod (.int ((c1 + 70001 * i + 89 : Nat) : Int)) (.int 2147482811) = some (.int (b : Int)) := by rw [hb]; exact op_mod_n (c1 + 70001 * i + 89) 2147482811 (by decide)
  refine ⟨if 1000000000000000000 ≤ cell then cell else 0, b, ?_, by rw [hb]; exact Nat.mod_lt _ (by decide)⟩
  rw [b_law_sieve, evSs_cons, evS_asg, e1, to_ok, thenS_nx, evSs_cons, evS_ret, evE_lst]
  have e2 : evE (evF TT k) (.ite (.op .ge (.var 2) (.op .pow (.lit (.int 10)) (.lit (.int 18)))) (.var 2) (.lit (.int 0))) (setS [.p (.scr (ns.map D.int)), .p (.int (i : Int)), .u] 2 (.p (.int cell))) g = .ok (.int ((if 1000000000000000000 ≤ cell then cell else 0 : Nat) : Int)) g := by
    simp only [setS_s, setS_z, evE_ite, evE_op, evE_var, evE_lit, getS_s, getS_z, slV_p, bind_ok, p1, of_some, hge, iteD_bl]
    by_cases h : 1000000000000000000 ≤ cell
    · rw [decide_eq_true h, if_pos rfl, if_pos h]
    · rw [decide_eq_false h, if_neg Bool.false_ne_true, if_neg h]; rfl
  have e3 : evE (evF TT k) (.op .mod (.bi .int [.op .add (.op .add (.op .mod (.bi .int [.var 2]) (.lit (.int 2147482811))) (.op .mul (.lit (.int 70001)) (.var 1))) (.lit (.int 89))]) (.lit (.int 2147482811))) (setS [.p (.scr (ns.map D.int)), .p (.int (i : Int)), .u] 2 (.p (.int cell))) g = .ok (.int b) g := by
    simp only [setS_s, setS_z, evE_op, evE_bi, evEs_cons, evEs_nil, evE_var, evE_lit, getS_s, getS_z, slV_p, bind_ok, bi_int_i, of_some, m1, m2, a1, a2, m3]
  rw [evEs_cons, e2, bind_ok, evEs_cons, e3, bind_ok, evEs_nil, bind_ok, bind_ok, bind_ok, to_ok, thenS_ret, outR_ret]
end Rz
/-! RzM6 -/
set_option linter.all false
set_option maxRecDepth 100000
namespace Rz
/-! ### vessels, water, steps -/
structure Ves where
  room : Nat → Int
  film : Nat → Int
  beg : Nat → Int
def encV (V : Ves) (i : Nat) : D := .tup [.int (V.room i), .int (V.film i), .int (V.beg i)]
def vsD (n : Nat) (V : Ves) : D := tf n (encV V)
def wD (n : Nat) (w : Nat → Int) : D := tf n fun i => .int (w i)
inductive Stp where
  | fill (a : Nat) (z : Int)
  | pour (a b : Nat) (z : Int)
  | tip (a : Nat)
def encS : Stp → D
  | .fill a z => .tup [.str [102, 105, 108, 108], .int (a : Int), .int z]
  | .pour a b z => .tup [.str [112, 111, 117, 114], .int (a : Int), .int (b : Int), .int z]
  | .tip a => .tup [.str [116, 105, 112], .int (a : Int)]
@[simp] theorem eq_ff : op2 .eq (.str [102, 105, 108, 108]) (.str [102, 105, 108, 108]) = some (.bl true) := nr rfl
@[simp] theorem eq_fp : op2 .eq (.str [112, 111, 117, 114]) (.str [102, 105, 108, 108]) = some (.bl false) := nr rfl
@[simp] theorem eq_ft : op2 .eq (.str [116, 105, 112]) (.str [102, 105, 108, 108]) = some (.bl false) := nr rfl
@[simp] theorem eq_tf : op2 .eq (.str [102, 105, 108, 108]) (.str [116, 105, 112]) = some (.bl false) := nr rfl
@[simp] theorem eq_tp : op2 .eq (.str [112, 111, 117, 114]) (.str [116, 105, 112]) = some (.bl false) := nr rfl
@[simp] theorem eq_tt : op2 .eq (.str [116, 105, 112]) (.str [116, 105, 112]) = some (.bl true) := nr rfl
@[simp] theorem eq_pp : op2 .eq (.str [112, 111, 117, 114]) (.str [112, 111, 117, 114]) = some (.bl true) := nr rfl
@[simp] theorem eq_pt : op2 .eq (.str [116, 105, 112]) (.str [112, 111, 117, 114]) = some (.bl false) := nr rfl
@[simp] theorem eq_pf : op2 .eq (.str [102, 105, 108, 108]) (.str [112, 111, 117, 114]) = some (.bl false) := nr rfl
@[simp] theorem ne_ff : op2 .ne (.str [102, 105, 108, 108]) (.str [102, 105, 108, 108]) = some (.bl false) := nr rfl
@[simp] theorem ne_fp : op2 .ne (.str [112, 111, 117, 114]) (.str [102, 105, 108, 108]) = some (.bl true) := nr rfl
@[simp] theorem ne_ft : op2 .ne (.str [116, 105, 112]) (.str [102, 105, 108, 108]) = some (.bl true) := nr rfl
@[simp] theorem ne_pp : op2 .ne (.str [112, 111, 117, 114]) (.str [112, 111, 117, 114]) = some (.bl false) := nr rfl
/-- a step of n vessels -/
def Stp.ok (n : Nat) : Stp → Prop
  | .fill a z => a < n ∧ 1 ≤ z ∧ z ≤ 12
  | .pour a b z => a < n ∧ b < n ∧ a ≠ b ∧ 1 ≤ z ∧ z ≤ 12
  | .tip a => a < n
def mv (V : Ves) (w : Nat → Int) : Stp → Int
  | .fill a z => min z (V.room a - w a)
  | .pour a b z => min z (min (V.room b - w b) (w a - V.film a))
  | .tip a => w a - V.film a
def wn (V : Ves) (w : Nat → Int) (s : Stp) : Nat → Int := match s with
  | .fill a z => up w a (w a + mv V w (.fill a z))
  | .pour a b z => up (up w a (w a - mv V w (.pour a b z))) b (w b + mv V w (.pour a b z))
  | .tip a => up w a (V.film a)
theorem ixv {n i : Nat} {V : Ves} (h : i < n) (g : Gs) : ixD g (vsD n V) (.int (i : Int)) = some (encV V i) := ix_tf h
theorem ixw {n i : Nat} {w : Nat → Int} (h : i < n) (g : Gs) : ixD g (wD n w) (.int (i : Int)) = some (.int (w i)) := ix_tf h
theorem min2_i (x y : Int) : bi .min2 [.int x, .int y] = some (.int (min x y)) := by
  show some (D.int (if y < x then y else x)) = _
  congr 2
  omega
theorem min3_i (x y z : Int) : bi .min3 [.int x, .int y, .int z] = some (.int (min (min x y) z)) := by
  show some (D.int (if z < (if y < x then y else x) then z else (if y < x then y else x))) = _
  congr 2
  omega
theorem T_moved_by : TT i_moved_by = some d_moved_by := rfl
theorem T_waters_behind : TT i_waters_behind = some d_waters_behind := rfl
theorem T_begins : TT i_begins = some d_begins := rfl
theorem T_law_flow : TT i_law_flow = some d_law_flow := rfl
theorem T_law_start : TT i_law_start = some d_law_start := rfl
@[simp] theorem bind_nm (i : Nat) (d : D) (env : Env) : bindT (.nm i) d env = some (setS env i (.p d)) := nr rfl
@[simp] theorem bind_t3 (i j l : Nat) (a b c : D) (env : Env) : bindT (.tp [.nm i, .nm j, .nm l]) (.tup [a, b, c]) env = some (setS (setS (setS env i (.p a)) j (.p b)) l (.p c)) := nr rfl
@[simp] theorem bind_t2 (i j : Nat) (a b : D) (env : Env) : bindT (.tp [.nm i, .nm j]) (.tup [a, b]) env = some (setS (setS env i (.p a)) j (.p b)) := nr rfl
theorem ev_moved (k n : Nat) (V : Ves) (w : Nat → Int) (s : Stp) (g : Gs) (hs : s.ok n) : evF TT (k + 1) i_moved_by [vsD n V, wD n w, encS s] g = .ok (.int (mv V w s)) g := by
  rw [evF_s T_moved_by, runF_eq rfl]
  show outR (evSs (evF TT k) b_moved_by [.p (vsD n V), .p (wD n w), .p (encS s), .u, .u, .u, .u] g) = _
  cases s with
  | fill a z =>
    obtain ⟨ha, _⟩ := hs
    simp [b_moved_by, encS, ixv ha, ixw ha, encV, min2_i, op_sub_i, mv]
  | tip a =>
    simp [b_moved_by, encS, ixv (show a < n from hs), ixw (show a < n from hs), encV, op_sub_i, mv]
  | pour a b z =>
    obtain ⟨ha, hb, _⟩ := hs
    simp [b_moved_by, encS, ixv ha, ixw ha, ixv hb, ixw hb, encV, min3_i, op_sub_i, mv]
    omega
theorem ev_waters (k n : Nat) (V : Ves) (w : Nat → Int) (s : Stp) (g : Gs) (hs : s.ok n) (hn : n ≤ 1000) : evF TT (k + 2) i_waters_behind [vsD n V, wD n w, encS s] g = .ok (wD n (wn V w s)) g := by
  rw [evF_s T_waters_behind, runF_eq rfl]
  show outR (evSs (evF TT (k + 1)) b_waters_behind [.p (vsD n V), .p (wD n w), .p (encS s), .u, .u] g) = _
  have m := ev_moved k n V w s g hs
  have wp : ∀ (w : Nat → Int) (a : Nat) (z : Int), a < n → evF TT (k + 1) i_with_part [wD n w, .int (a : Int), .int z] g = .ok (wD n (up w a z)) g := fun w a z ha => by
    have := ev_with_part k n a (fun i => .int (w i)) (.int z) g ha hn
    rw [show (fun i => D.int (w i)) = (fun i => D.int (w i)) from rfl] at this
    rw [wD, this, wD]
    congr 2
    funext i
    by_cases h : i = a <;> simp [up, h]
  cases s with
  | fill a z =>
    obtain ⟨ha, _⟩ := hs
    simp only [encS] at m
    simp [b_waters_behind, encS, m, ixw ha, op_add_i, wp w a _ ha, wn]
  | tip a =>
    have ha : a < n := hs
    simp only [encS] at m
    simp [b_waters_behind, encS, m, ixw ha, op_sub_i, wp w a _ ha, wn, mv]
    congr 2
    omega
  | pour a b z =>
    obtain ⟨ha, hb, hab, _⟩ := hs
    simp only [encS] at m
    simp [b_waters_behind, encS, m, ixw ha, ixw hb, op_sub_i, op_add_i, wp _ a _ ha, wp _ b _ hb, wn]
theorem ev_begins (k n : Nat) (V : Ves) (g : Gs) (hn : n ≤ 1000) : evF TT (k + 1) i_begins [vsD n V] g = .ok (wD n V.beg) g := by
  rw [evF_s T_begins, runF_eq rfl]
  show outR (evSs (evF TT k) b_begins [.p (vsD n V), .u] g) = _
  have c : compD (evF TT k) (.ix (.var 1) (.lit (.int 2))) (.nm 1) [] [.p (vsD n V), .u] g (some ((List.range n).map (encV V))) = .ok (lf n fun i => .int (V.beg i)) g :=
    compD_n (fun i => .int (V.beg i)) (by omega) fun i hi => ⟨[.p (vsD n V), .p (encV V i)], rfl, by simp [encV]⟩
  have hi : items .seq [vsD n V] = some ((List.range n).map (encV V)) := items_seq (sq_tf _ _)
  have ht : bi .tuple [lf n fun i => .int (V.beg i)] = some (wD n V.beg) := tuple_lf _ _
  simp [b_begins, hi, c, ht]
theorem ev_law_start (k n : Nat) (V : Ves) (g : Gs) (hn : n ≤ 1000) : evF TT (k + 1) i_law_start [vsD n V] g = .ok (wD n V.beg) g := by
  rw [evF_s T_law_start, runF_eq rfl]
  show outR (evSs (evF TT k) b_law_start [.p (vsD n V), .u] g) = _
  have c : compD (evF TT k) (.ix (.var 1) (.lit (.int 2))) (.nm 1) [] [.p (vsD n V), .u] g (some ((List.range n).map (encV V))) = .ok (lf n fun i => .int (V.beg i)) g :=
    compD_n (fun i => .int (V.beg i)) (by omega) fun i hi => ⟨[.p (vsD n V), .p (encV V i)], rfl, by simp [encV]⟩
  have hi : items .seq [vsD n V] = some ((List.range n).map (encV V)) := items_seq (sq_tf _ _)
  have ht : bi .tuple [lf n fun i => .int (V.beg i)] = some (wD n V.beg) := tuple_lf _ _
  simp [b_law_start, hi, c, ht]

/-- an own list in slot i, its part a written -/
theorem lf_set (n : Nat) (f : Nat → D) (a : Nat) (d : D) (h : a < n) : ((List.range n).map f).set a d = (List.range n).map (up f a d) := by
  apply List.ext_getElem?
  intro j
  rw [List.getElem?_set]
  by_cases hj : j < n
  · rw [get_map n _ j hj, get_map n _ j hj]
    by_cases hp : a = j
    · subst hp; simp [up, h]
    · rw [if_neg hp]; simp only [up]; rw [if_neg (fun z => hp z.symm)]
  · rw [List.getElem?_eq_none (by simp; omega), List.getElem?_eq_none (by simp; omega)]
    by_cases hp : a = j
    · omega
    · rw [if_neg hp]
theorem setx_lf {C : Nat → List D → Gs → R D} {env : Env} {g : Gs} {i n a : Nat} {j e : Ex} {d : D} {f : Nat → D} (h1 : evE C e env g = .ok d g) (hs : getS env i = .o (lf n f)) (h2 : evE C j env g = .ok (.int (a : Int)) g) (ha : a < n) :
    evS C (.setx i j e) env g = .nx (setS env i (.o (lf n (up f a d)))) g := by
  rw [setx_own (n := a) h1 hs h2 (by simp; exact ha), lf_set n f a d ha]; rfl
theorem wl_up (n : Nat) (w : Nat → Int) (a : Nat) (z : Int) : (lf n (up (fun i => D.int (w i)) a (.int z))) = lf n fun i => .int (up w a z i) := by
  unfold lf; congr 2; funext i; by_cases h : i = a <;> simp [up, h]
@[simp] theorem isLst_lf (n : Nat) (f : Nat → D) : isLst (lf n f) = true := nr rfl
@[simp] theorem frzS_1 (env : Env) (i : Nat) : frz [i] env = frzS env i := nr rfl
@[simp] theorem frzS_z (s : Sl) (r : Env) : frzS (s :: r) 0 = s.fr :: r := nr rfl
@[simp] theorem frzS_s (s : Sl) (r : Env) (i : Nat) : frzS (s :: r) (i + 1) = s :: frzS r i := nr rfl
@[simp] theorem fr_o (d : D) : Sl.fr (.o d) = .p d := nr rfl
@[simp] theorem fr_p (d : D) : Sl.fr (.p d) = .p d := nr rfl
@[simp] theorem setPar_nil (env : Env) : setPar [] [] env = some env := nr rfl
@[simp] theorem setPar_cons (o : Bool) (i : Nat) (ts : List (Bool × Nat)) (d : D) (ds : List D) (env : Env) : setPar ((o, i) :: ts) (d :: ds) env = if o && !isLst d then none else setPar ts ds (setS env i (if o then .o d else .p d)) := nr rfl
theorem ev_law_flow (k n : Nat) (V : Ves) (w : Nat → Int) (s : Stp) (g : Gs) (hs : s.ok n) (hn : n ≤ 1000) : evF TT (k + 1) i_law_flow [vsD n V, wD n w, encS s] g = .ok (.tup [.int (mv V w s), wD n (wn V w s)]) g := by
  rw [evF_s T_law_flow, runF_eq rfl]
  show outR (evSs (evF TT k) b_law_flow [.p (vsD n V), .p (wD n w), .p (encS s), .u, .u, .u, .u] g) = _
  have hl : bi .list [wD n w] = some (lf n fun i => .int (w i)) := list_tf _ _
  have ht : ∀ w : Nat → Int, bi .tuple [lf n fun i => .int (w i)] = some (wD n w) := fun w => tuple_lf _ _
  cases s with
  | fill a z =>
    obtain ⟨ha, _⟩ := hs
    have e : evS (evF TT k) (.setx 4 (.var 3) (.op .add (.ix (.var 1) (.var 3)) (.var 5))) [.p (vsD n V), .p (wD n w), .p (encS (.fill a z)), .p (.int a), .o (lf n fun i => .int (w i)), .p (.int (mv V w (.fill a z))), .u] g = .nx [.p (vsD n V), .p (wD n w), .p (encS (.fill a z)), .p (.int a), .o (lf n fun i => .int (wn V w (.fill a z) i)), .p (.int (mv V w (.fill a z))), .u] g := by
      rw [setx_lf (d := .int (w a + mv V w (.fill a z))) (by simp [ixw ha, op_add_i]) rfl (by simp) ha, wl_up]; rfl
    simp only [encS, mv] at e
    simp [b_law_flow, encS, hl, ixv ha, ixw ha, encV, op_sub_i, min2_i, e, ht, mv]
  | tip a =>
    have ha : a < n := hs
    have e : evS (evF TT k) (.setx 4 (.var 3) (.ix (.ix (.var 0) (.var 3)) (.lit (.int 1)))) [.p (vsD n V), .p (wD n w), .p (encS (.tip a)), .p (.int a), .o (lf n fun i => .int (w i)), .p (.int (mv V w (.tip a))), .u] g = .nx [.p (vsD n V), .p (wD n w), .p (encS (.tip a)), .p (.int a), .o (lf n fun i => .int (wn V w (.tip a) i)), .p (.int (mv V w (.tip a))), .u] g := by
      rw [setx_lf (d := .int (V.film a)) (by simp [ixv ha, encV]) rfl (by simp) ha, wl_up]; rfl
    simp only [encS, mv] at e
    simp [b_law_flow, encS, hl, ixv ha, ixw ha, encV, op_sub_i, e, ht, mv]
  | pour a b z =>
    obtain ⟨ha, hb, hab, _⟩ := hs
    have e : evS (evF TT k) (.setx 4 (.var 3) (.op .sub (.ix (.var 1) (.var 3)) (.var 5))) [.p (vsD n V), .p (wD n w), .p (encS (.pour a b z)), .p (.int a), .o (lf n fun i => .int (w i)), .p (.int (mv V w (.pour a b z))), .p (.int b)] g = .nx [.p (vsD n V), .p (wD n w), .p (encS (.pour a b z)), .p (.int a), .o (lf n fun i => .int (up w a (w a - mv V w (.pour a b z)) i)), .p (.int (mv V w (.pour a b z))), .p (.int b)] g := by
      rw [setx_lf (d := .int (w a - mv V w (.pour a b z))) (by simp [ixw ha, op_sub_i]) rfl (by simp) ha, wl_up]; rfl
    have e2 : evS (evF TT k) (.setx 4 (.var 6) (.op .add (.ix (.var 1) (.var 6)) (.var 5))) [.p (vsD n V), .p (wD n w), .p (encS (.pour a b z)), .p (.int a), .o (lf n fun i => .int (up w a (w a - mv V w (.pour a b z)) i)), .p (.int (mv V w (.pour a b z))), .p (.int b)] g = .nx [.p (vsD n V), .p (wD n w), .p (encS (.pour a b z)), .p (.int a), .o (lf n fun i => .int (wn V w (.pour a b z) i)), .p (.int (mv V w (.pour a b z))), .p (.int b)] g := by
      rw [setx_lf (d := .int (w b + mv V w (.pour a b z))) (by simp [ixw hb, op_add_i]) rfl (by simp) hb, wl_up]; rfl
    simp only [encS, mv] at e e2
    simp [b_law_flow, encS, hl, ixv ha, ixw ha, ixv hb, ixw hb, encV, op_sub_i, min2_i, e, e2, ht, mv]
end Rz
/-! RzM7 -/
set_option linter.all false
set_option maxRecDepth 100000
namespace Rz
theorem T_law_step : TT i_law_step = some d_law_step := rfl
theorem T_law_vessels : TT i_law_vessels = some d_law_vessels := rfl
theorem T_law_way : TT i_law_way = some d_law_way := rfl
theorem T_law_closed : TT i_law_closed = some d_law_closed := rfl
/-- a number below w, told as an int -/
theorem sift_i (k m : Nat) (w : Int) (g : Gs) (hs : Sv g m) (hw : 0 < w) (hw2 : w < 1000000) : ∃ (r : Int) (g' : Gs), evF TT (k + 1) i_law_sift [.mref m, .int w] g = .ok (.int r) g' ∧ 0 ≤ r ∧ r < w ∧ Sv g' m := by
  obtain ⟨n, rfl⟩ := Int.eq_ofNat_of_zero_le (Int.le_of_lt hw)
  obtain ⟨r, g', h1, h2, h3⟩ := sift_n k m n g hs (by omega) (by omega)
  exact ⟨r, g', h1, by omega, by omega, h3⟩
theorem some_i (k m : Nat) (l : List Int) (g : Gs) (hs : Sv g m) (hn : 0 < l.length) (hn2 : l.length < 1000) : ∃ (d : Int) (g' : Gs), evF TT (k + 2) i_law_some [.mref m, .lst (l.map D.int)] g = .ok (.int d) g' ∧ d ∈ l ∧ Sv g' m := by
  obtain ⟨d, g', h1, h2, h3⟩ := some_l k m (l.map D.int) g hs (by simpa using hn) (by simpa using hn2)
  obtain ⟨x, hx, rfl⟩ := List.mem_map.mp h2
  exact ⟨x, g', h1, hx, h3⟩
theorem ev_law_step (k m n : Nat) (g : Gs) (hs : Sv g m) (h0 : 0 < n) (hn : n ≤ 1000) : ∃ (s : Stp) (g' : Gs), evF TT (k + 3) i_law_step [.mref m, .int (n : Int)] g = .ok (encS s) g' ∧ s.ok n ∧ Sv g' m := by
  obtain ⟨a, g1, h1, ha, hs1⟩ := sift_n (k + 1) m n g hs h0 (by omega)
  obtain ⟨kd, g2, h2, hk0, hk, hs2⟩ := sift_i (k + 1) m 5 g1 hs1 (by decide) (by decide)
  obtain ⟨d, g3, h3, hd, hs3⟩ := some_i k m [4, 12] g2 hs2 (by decide) (by decide)
  obtain ⟨z, g4, h4, hz0, hz, hs4⟩ := sift_i (k + 1) m d g3 hs3 (by simp at hd; omega) (by simp at hd; omega)
  have hz12 : 1 + z ≤ 12 := by simp at hd; omega
  simp only [List.map_cons, List.map_nil] at h3
  rw [evF_s T_law_step]
  by_cases c1 : kd < 2
  · refine ⟨.fill a (1 + z), g4, ?_, ⟨ha, by omega, hz12⟩, hs4⟩
    rw [runF_eq rfl]
    show outR (evSs (evF TT (k + 2)) b_law_step [.p (.mref m), .p (.int (n : Int)), .u, .u, .u, .u] g) = _
    simp [b_law_step, h1, h2, h3, h4, op_add_i, op_lt_i, c1, encS]
  · by_cases c2 : kd < 4 ∧ 1 < n
    · obtain ⟨t, g5, h5, ht, hs5⟩ := sift_n (k + 1) m (n - 1) g4 hs4 (by omega) (by omega)
      have e : ((n - 1 : Nat) : Int) = (n : Int) - 1 := by omega
      rw [e] at h5
      refine ⟨.pour a ((a + 1 + t) % n) (1 + z), g5, ?_, ⟨ha, Nat.mod_lt _ h0, ?_, by omega, hz12⟩, hs5⟩
      · rw [runF_eq rfl]
        show outR (evSs (evF TT (k + 2)) b_law_step [.p (.mref m), .p (.int (n : Int)), .u, .u, .u, .u] g) = _
        have m1 : op2 .mod (.int ((a : Int) + 1 + t)) (.int (n : Int)) = some (.int (((a + 1 + t) % n : Nat) : Int)) := by
          have := op_mod_n (a + 1 + t) n (by omega)
          rw [← this]; congr 2
        have hc : (1 : Int) < n := by omega
        simp only [encS, b_law_step, evSs_cons, evS_par, evEs_cons, evEs_nil, evE_call, evE_var, evE_lit, getS_z, getS_s, slV_p, bind_ok, h1, h2, parD_ok, setPar_cons, setPar_nil, Bool.false_and, Bool.false_eq_true, if_false, setS_s, setS_z, nxO_some, thenS_nx, evS_asg, evE_op, evE_lst, h3, h4, op_add_i, of_some, to_ok, evS_ite, op_lt_i, c1, decide_false, iteD_bl, evSs_nil, evE_and, c2.1, decide_true, if_true, op_gt_i, hc, op_sub_i, h5, m1, evS_ret, evE_tup, thenS_ret, outR_ret]
      · intro he
        rcases Nat.lt_or_ge (a + 1 + t) n with hl | hg
        · rw [Nat.mod_eq_of_lt hl] at he; omega
        · rw [Nat.mod_eq_sub_mod hg, Nat.mod_eq_of_lt (by omega)] at he; omega
    · refine ⟨.tip a, g4, ?_, ha, hs4⟩
      rw [runF_eq rfl]
      show outR (evSs (evF TT (k + 2)) b_law_step [.p (.mref m), .p (.int (n : Int)), .u, .u, .u, .u] g) = _
      by_cases c3 : kd < 4
      · have hc : ¬ ((1 : Int) < n) := fun z => c2 ⟨c3, by omega⟩
        have hc2 : ¬ (1 < n) := by omega
        simp [b_law_step, h1, h2, h3, h4, op_add_i, op_lt_i, op_gt_i, c1, c3, hc, hc2, encS]
      · simp [b_law_step, h1, h2, h3, h4, op_add_i, op_lt_i, op_gt_i, c1, c3, encS]
/-! ### vessels -/
structure VOk (V : Ves) (i : Nat) : Prop where
  r1 : 2 ≤ V.room i
  r2 : V.room i ≤ 12
  f1 : 1 ≤ V.film i
  f2 : V.film i ≤ V.room i - 1
  b1 : V.film i ≤ V.beg i
  b2 : V.beg i ≤ V.room i
def upV (V : Ves) (p : Nat) (r f b : Int) : Ves := ⟨up V.room p r, up V.film p f, up V.beg p b⟩
theorem upV_ok {V : Ves} {p i : Nat} {r f b : Int} (h : i ≠ p → VOk V i) (hp : 2 ≤ r ∧ r ≤ 12 ∧ 1 ≤ f ∧ f ≤ r - 1 ∧ f ≤ b ∧ b ≤ r) : VOk (upV V p r f b) i := by
  by_cases c : i = p
  · subst c; constructor <;> simp [upV, up] <;> omega
  · have := h c
    constructor <;> simp [upV, up, c]
    · exact this.r1
    · exact this.r2
    · exact this.f1
    · exact this.f2
    · exact this.b1
    · exact this.b2
theorem vsD_snoc (i : Nat) (V : Ves) (r f b : Int) : vsD (i + 1) (upV V i r f b) = .tup ((List.range i).map (encV V) ++ [.tup [.int r, .int f, .int b]]) := by
  unfold vsD tf
  rw [List.range_succ, List.map_append]
  congr 2
  · apply List.map_congr_left
    intro j hj
    have : j ≠ i := by have := List.mem_range.mp hj; omega
    simp [encV, upV, up, this]
  · simp [encV, upV, up]
theorem ev_law_vessels (k m least : Nat) (g : Gs) (hs : Sv g m) (h1 : 1 ≤ least) (h3 : least ≤ 3) : ∃ (n : Nat) (V : Ves) (g' : Gs), evF TT (k + 3) i_law_vessels [.mref m, .int (least : Int)] g = .ok (vsD n V) g' ∧ least ≤ n ∧ n ≤ 3 ∧ (∀ i, i < n → VOk V i) ∧ Sv g' m := by
  have e0 : ((4 - least : Nat) : Int) = 4 - (least : Int) := by omega
  obtain ⟨t, g1, q1, ht, hs1⟩ := sift_n (k + 1) m (4 - least) g hs (by omega) (by omega)
  rw [e0] at q1
  rw [evF_s T_law_vessels, runF_eq rfl]
  show ∃ (n : Nat) (V : Ves) (g' : Gs), outR (evSs (evF TT (k + 2)) b_law_vessels [.p (.mref m), .p (.int (least : Int)), .u, .u, .u, .u, .u] g) = _ ∧ _
  have er : items .rng [.int ((least : Int) + t)] = some ((List.range (least + t)).map fun (i : Nat) => D.int (i : Int)) := by
    have := items_rng (n := least + t) (by omega)
    push_cast at this; exact this
  generalize hb : ([St.asg 4 (.op .add (.lit (.int 2)) (.call i_law_sift [.var 0, .call i_law_some [.var 0, .lst [.lit (.int 4), .lit (.int 11)]]])), .asg 5 (.op .add (.lit (.int 1)) (.call i_law_sift [.var 0, .call i_law_some [.var 0, .lst [.lit (.int 1),
    .op .sub (.var 4) (.lit (.int 1))]]])), .asg 6 (.op .mul (.call i_law_sift [.var 0, .op .add (.op .sub (.var 4) (.var 5)) (.lit (.int 1))]) (.call i_law_sift [.var 0, .lit (.int 2)])), .asg 2 (.op .add (.var 2) (.tup [.tup [.var 4, .var 5,
    .op .add (.var 5) (.var 6)]]))] : List St) = body
  obtain ⟨env', g', f1, V, hV, y4, y5, y6, y3, he, hs'⟩ := forL_n (t := .nm 3) (f := fun (i : Nat) => D.int (i : Int)) (b := bodyOf (evF TT (k + 2)) body) (env := [.p (.mref m), .p (.int (least : Int)), .p (.tup []), .u, .u, .u, .u]) (g := g1)
    (fun i e g => ∃ V : Ves, (∀ j, j < i → VOk V j) ∧ ∃ y4 y5 y6 y3, e = [.p (.mref m), .p (.int (least : Int)), .p (vsD i V), y3, y4, y5, y6] ∧ Sv g m) (least + t) (fun i e g hi ⟨V, hV, y4, y5, y6, y3, he, hs⟩ => by
      subst he
      obtain ⟨d1, g2, q2, hd1, hs2⟩ := some_i k m [4, 11] g hs (by decide) (by decide)
      obtain ⟨r, g3, q3, hr0, hr, hs3⟩ := sift_i (k + 1) m d1 g2 hs2 (by simp at hd1; omega) (by simp at hd1; omega)
      have hr11 : r < 11 := by simp at hd1; omega
      obtain ⟨d2, g4, q4, hd2, hs4⟩ := some_i k m [1, 2 + r - 1] g3 hs3 (by simp) (by simp)
      obtain ⟨f, g5, q5, hf0, hf, hs5⟩ := sift_i (k + 1) m d2 g4 hs4 (by simp at hd2; omega) (by simp at hd2; omega)
      have hfr : 1 + f ≤ 2 + r - 1 := by simp at hd2; omega
      obtain ⟨p, g6, q6, hp0, hp, hs6⟩ := sift_i (k + 1) m (2 + r - (1 + f) + 1) g5 hs5 (by omega) (by omega)
      obtain ⟨z, g7, q7, hz0, hz, hs7⟩ := sift_i (k + 1) m 2 g6 hs6 (by decide) (by decide)
      have hmul : op2 .mul (.int p) (.int z) = some (.int (p * z)) := op_mul_i (mulOk_of (n := 32) (m := 32) (by omega) (by omega) (by decide) (by decide) (by decide))
      have hpz : 0 ≤ p * z ∧ p * z ≤ p := by
        have : z = 0 ∨ z = 1 := by omega
        rcases this with rfl | rfl <;> omega
      simp only [List.map_cons, List.map_nil] at q2 q4
      have ha : op2 .add (vsD i V) (.tup [.tup [.int (2 + r), .int (1 + f), .int (1 + f + p * z)]]) = some (vsD (i + 1) (upV V i (2 + r) (1 + f) (1 + f + p * z))) := by
        rw [vsD_snoc]
        exact op_add_t (by simp; omega)
      refine ⟨[.p (.mref m), .p (.int (least : Int)), .p (vsD i V), .p (.int i), y4, y5, y6], rfl, [.p (.mref m), .p (.int (least : Int)), .p (vsD (i + 1) (upV V i (2 + r) (1 + f) (1 + f + p * z))), .p (.int i), .p (.int (2 + r)), .p (.int (1 + f)), .p (.int (p * z))], g7, .inl ?_, upV V i (2 + r) (1 + f) (1 + f + p * z), fun j hj => upV_ok (fun c => hV j (by omega)) (by omega), _, _, _, _, rfl, hs7⟩
      rw [bodyOf_eq, ← hb]
      simp only [evSs_cons, evSs_nil, evS_asg, evE_op, evE_lit, evE_call, evEs_cons, evEs_nil, evE_var, evE_lst, evE_tup, getS_z, getS_s, slV_p, bind_ok, q2, q3, op_add_i, of_some, to_ok, setS_z, setS_s, thenS_nx, op_sub_i, q4, q5, q6, q7, hmul, ha]) ⟨V0, fun j hj => by omega, .u, .u, .u, .u, rfl, hs1⟩
  refine ⟨least + t, V, g', ?_, by omega, by omega, hV, hs'⟩
  subst he
  rw [b_law_vessels, hb]
  simp only [evSs_cons, evSs_nil, evS_asg, evE_tup, evEs_nil, bind_ok, to_ok, setS_z, setS_s, thenS_nx, evS_for, evEs_cons, evE_op, evE_var, evE_call, evE_lit, getS_z, getS_s, slV_p, op_sub_i, of_some, q1, op_add_i, fork_ok, er, forD_some, f1, evS_ret, thenS_ret, outR_ret]
where V0 : Ves := ⟨fun _ => 0, fun _ => 0, fun _ => 0⟩

/-! ### ways -/
def wat (V : Ves) (w : Nat → Int) (ss : List Stp) : Nat → Int := ss.foldl (wn V) w
def ssD (ss : List Stp) : D := .tup (ss.map encS)
def wayD (n : Nat) (V : Ves) (ss : List Stp) : D := .tup [vsD n V, ssD ss]
structure WOk (V : Ves) (n : Nat) (w : Nat → Int) : Prop where
  lo : ∀ i, i < n → V.film i ≤ w i
  hi : ∀ i, i < n → w i ≤ V.room i
theorem wn_ok {V : Ves} {n : Nat} {w : Nat → Int} {s : Stp} (hV : ∀ i, i < n → VOk V i) (h : WOk V n w) (hs : s.ok n) : WOk V n (wn V w s) := by
  cases s with
  | fill a z =>
    obtain ⟨ha, hz⟩ := hs
    constructor <;> intro i hi <;> have h1 := h.lo i hi <;> have h2 := h.hi i hi <;> by_cases c : i = a <;> simp [wn, up, mv, c] <;> (try subst c) <;> omega
  | tip a =>
    constructor <;> intro i hi <;> have h1 := h.lo i hi <;> have h2 := h.hi i hi <;> have h3 := (hV i hi).f2 <;> by_cases c : i = a <;> simp [wn, up, c] <;> (try subst c) <;> omega
  | pour a b z =>
    obtain ⟨ha, hb, hab, hz⟩ := hs
    have a1 := h.lo a ha
    have a2 := h.hi a ha
    have b1 := h.lo b hb
    have b2 := h.hi b hb
    constructor <;> intro i hi <;> have h1 := h.lo i hi <;> have h2 := h.hi i hi <;> by_cases c : i = b <;> by_cases c2 : i = a <;> simp [wn, up, mv, c, c2] <;> (try subst c) <;> (try subst c2) <;> omega
theorem wat_ok {V : Ves} {n : Nat} (hV : ∀ i, i < n → VOk V i) : ∀ (ss : List Stp) {w : Nat → Int}, WOk V n w → (∀ s ∈ ss, s.ok n) → WOk V n (wat V w ss)
  | [], _, h, _ => h
  | s :: ss, _, h, hs => wat_ok hV ss (wn_ok hV h (hs s (List.mem_cons_self ..))) fun t ht => hs t (List.mem_cons_of_mem _ ht)
theorem wat_snoc (V : Ves) (w : Nat → Int) (ss : List Stp) (s : Stp) : wat V w (ss ++ [s]) = wn V (wat V w ss) s := by
  unfold wat; rw [List.foldl_append]; rfl
theorem wat_app (V : Ves) (w : Nat → Int) (ss ts : List Stp) : wat V w (ss ++ ts) = wat V (wat V w ss) ts := by
  unfold wat; rw [List.foldl_append]
theorem beg_ok {V : Ves} {n : Nat} (hV : ∀ i, i < n → VOk V i) : WOk V n V.beg := ⟨fun i hi => (hV i hi).b1, fun i hi => (hV i hi).b2⟩
theorem wD_congr {n : Nat} {w w' : Nat → Int} (h : ∀ i, i < n → w i = w' i) : wD n w = wD n w' := by
  unfold wD tf
  congr 1
  exact List.map_congr_left fun i hi => by rw [h i (List.mem_range.mp hi)]
@[simp] theorem blt0 : Nat.blt ([] : List D).length lineN = true := nr rfl
@[simp] theorem blt1 (d : D) : Nat.blt [d].length lineN = true := nr rfl
theorem tuple_l (ds : List D) : bi .tuple [.lst ds] = some (.tup ds) := rfl
theorem len_t (ds : List D) : bi .len [.tup ds] = some (.int (ds.length : Int)) := rfl
@[simp] theorem isLst_l (ds : List D) : isLst (.lst ds) = true := nr rfl
/-- what a way of the law is -/
structure WayOk (n : Nat) (V : Ves) (ss : List Stp) : Prop where
  n0 : 0 < n
  n3 : n ≤ 3
  vok : ∀ i, i < n → VOk V i
  s0 : 0 < ss.length
  s8 : ss.length ≤ 8
  sok : ∀ s ∈ ss, s.ok n
  back : ∀ i, i < n → wat V V.beg ss i = V.beg i
theorem hL0 : 0 < lineN := by decide
theorem hL1 : 1 < lineN := by decide
theorem ssD_add (ss : List Stp) (ts : List Stp) (h : ss.length + ts.length ≤ 1000) : op2 .add (ssD ss) (.tup (ts.map encS)) = some (ssD (ss ++ ts)) := by
  unfold ssD
  rw [op_add_t (by simp; omega), List.map_append]
theorem ev_law_way (k m n : Nat) (V : Ves) (g : Gs) (hs : Sv g m) (h1 : 1 ≤ n) (h3 : n ≤ 3) (hV : ∀ i, i < n → VOk V i) : ∃ (ss : List Stp) (g' : Gs), evF TT (k + 4) i_law_way [.mref m, vsD n V] g = .ok (wayD n V ss) g' ∧ WayOk n V ss ∧ Sv g' m := by
  have e0 : ((8 - 2 * n : Nat) : Int) = 8 - 2 * (n : Int) := by omega
  obtain ⟨t, g1, q1, ht, hs1⟩ := sift_n (k + 2) m (8 - 2 * n) g hs (by omega) (by omega)
  rw [e0] at q1
  rw [evF_s T_law_way, runF_eq rfl]
  show ∃ (ss : List Stp) (g' : Gs), outR (evSs (evF TT (k + 3)) b_law_way [.p (.mref m), .p (vsD n V), .u, .u, .u, .u, .u, .u, .u] g) = _ ∧ _
  have er : items .rng [.int (1 + (t : Int))] = some ((List.range (1 + t)).map fun (i : Nat) => D.int (i : Int)) := by
    have := items_rng (n := 1 + t) (by omega)
    push_cast at this; exact this
  have hl : bi .len [vsD n V] = some (.int (n : Int)) := len_tf _ _
  have hm2 : op2 .mul (.int 2) (.int (n : Int)) = some (.int (2 * (n : Int))) := op_mul_i (mulOk_of (n := 32) (m := 32) (by decide) (by omega) (by decide) (by decide) (by decide))
  have hst := ev_law_start (k + 2) n V g (by omega)
  generalize hb : ([St.asg 5 (.call i_law_step [.var 0, .bi .len [.var 1]]), .par [(false, 2), (false, 3)] [.op .add (.var 2) (.tup [.var 5]), .ix (.call i_law_flow [.var 1, .var 3, .var 5]) (.lit (.int 1))]] : List St) = body
  generalize hb2 : ([St.par [(true, 7), (false, 8)] [.lst [], .op .sub (.ix (.ix (.var 1) (.var 6)) (.lit (.int 2))) (.ix (.var 3) (.var 6))],
    .ite (.op .lt (.var 8) (.lit (.int 0))) [.par [(true, 7), (false, 8)] [.lst [.tup [.lit (.str [116, 105, 112]), .var 6]],
    .op .sub (.ix (.ix (.var 1) (.var 6)) (.lit (.int 2))) (.ix (.ix (.var 1) (.var 6)) (.lit (.int 1)))]] [],
    .ite (.op .gt (.var 8) (.lit (.int 0))) [.app 7 (.tup [.lit (.str [102, 105, 108, 108]), .var 6, .var 8])] [], .frz [7],
    .asg 2 (.op .add (.var 2) (.bi .tuple [.var 7]))] : List St) = body2
  obtain ⟨env', g', f1, ss, hss, hlen, y4, y5, y6, y7, y8, he, hs'⟩ := forL_n (t := .nm 4) (f := fun (i : Nat) => D.int (i : Int)) (b := bodyOf (evF TT (k + 3)) body) (env := [.p (.mref m), .p (vsD n V), .p (.tup []), .p (wD n V.beg), .u, .u, .u, .u, .u]) (g := g1)
    (fun i e g => ∃ ss : List Stp, (∀ s ∈ ss, s.ok n) ∧ ss.length = i ∧ ∃ y4 y5 y6 y7 y8, e = [.p (.mref m), .p (vsD n V), .p (ssD ss), .p (wD n (wat V V.beg ss)), y4, y5, y6, y7, y8] ∧ Sv g m) (1 + t) (fun i e g hi ⟨ss, hss, hlen, y4, y5, y6, y7, y8, he, hs⟩ => by
      subst he
      obtain ⟨s, g2, q2, hok, hs2⟩ := ev_law_step k m n g hs h1 (by omega)
      have q3 := ev_law_flow (k + 2) n V (wat V V.beg ss) s g2 hok (by omega)
      have ha := ssD_add ss [s] (by simp; omega)
      simp only [List.map_cons, List.map_nil] at ha
      refine ⟨[.p (.mref m), .p (vsD n V), .p (ssD ss), .p (wD n (wat V V.beg ss)), .p (.int i), y5, y6, y7, y8], rfl, [.p (.mref m), .p (vsD n V), .p (ssD (ss ++ [s])), .p (wD n (wat V V.beg (ss ++ [s]))), .p (.int i), .p (encS s), y6, y7, y8], g2, .inl ?_, ss ++ [s], fun x hx => (List.mem_append.mp hx).elim (hss x) fun z => by rw [List.mem_singleton.mp z]; exact hok, by simp [hlen], _, _, _, _, _, rfl, hs2⟩
      rw [bodyOf_eq, ← hb, wat_snoc]
      simp [hl, q2, q3, ha]) ⟨[], fun s hs => (List.not_mem_nil hs).elim, rfl, .u, .u, .u, .u, .u, rfl, hs1⟩
  have ok1 := wat_ok hV ss (beg_ok hV) hss
  obtain ⟨env2, g2, f2, ts, hts, hl1, hl2, hw, y4', y5', y6', y7', y8', he2, hs2⟩ := forL_n (t := .nm 6) (f := fun (i : Nat) => D.int (i : Int)) (b := bodyOf (evF TT (k + 3)) body2) (env := [.p (.mref m), .p (vsD n V), .p (ssD ss), .p (wD n (wat V V.beg ss)), y4, y5, y6, y7, y8]) (g := g')
    (fun i e g => ∃ ts : List Stp, (∀ s ∈ ts, s.ok n) ∧ ss.length ≤ ts.length ∧ ts.length ≤ ss.length + 2 * i ∧ (∀ j, j < n → wat V V.beg ts j = if j < i then V.beg j else wat V V.beg ss j) ∧ ∃ y4 y5 y6 y7 y8, e = [.p (.mref m), .p (vsD n V), .p (ssD ts), .p (wD n (wat V V.beg ss)), y4, y5, y6, y7, y8] ∧ Sv g m) n (fun i e g hi ⟨ts, hts, hl1, hl2, hw, y4, y5, y6, y7, y8, he, hs⟩ => by
      subst he
      have b1 := (hV i hi).b1
      have b2 := (hV i hi).b2
      have r2 := (hV i hi).r2
      have f1' := (hV i hi).f1
      have w1 := ok1.lo i hi
      have w2 := ok1.hi i hi
      have hwi : wat V V.beg ts i = wat V V.beg ss i := by rw [hw i hi, if_neg (by omega)]
      have key : ∃ us : List Stp, (∀ s ∈ us, s.ok n) ∧ us.length ≤ 2 ∧ (∀ j, j < n → wat V V.beg (ts ++ us) j = if j < i + 1 then V.beg j else wat V V.beg ss j) ∧ ∃ z8, bodyOf (evF TT (k + 3)) body2 [.p (.mref m), .p (vsD n V), .p (ssD ts), .p (wD n (wat V V.beg ss)), y4, y5, .p (.int i), y7, y8] g = .nx [.p (.mref m), .p (vsD n V), .p (ssD (ts ++ us)), .p (wD n (wat V V.beg ss)), y4, y5, .p (.int i), .p (.lst (us.map encS)), .p (.int z8)] g := by
        have step : ∀ us : List Stp, (∀ j, j < n → wat V (wat V V.beg ts) us j = if j = i then V.beg i else wat V V.beg ts j) → ∀ j, j < n → wat V V.beg (ts ++ us) j = if j < i + 1 then V.beg j else wat V V.beg ss j := fun us hu j hj => by
          rw [wat_app, hu j hj]
          by_cases c : j = i
          · subst c; rw [if_pos rfl, if_pos (by omega)]
          · rw [if_neg c, hw j hj]
            by_cases c2 : j < i
            · rw [if_pos c2, if_pos (by omega)]
            · rw [if_neg c2, if_neg (by omega)]
        by_cases c1 : V.beg i - wat V V.beg ss i < 0
        · by_cases c2 : 0 < V.beg i - V.film i
          · have ha := ssD_add ts [.tip i, .fill i (V.beg i - V.film i)] (by simp; omega)
            simp only [List.map_cons, List.map_nil, encS] at ha
            refine ⟨[.tip i, .fill i (V.beg i - V.film i)], fun s hs => ?_, by simp, step _ fun j hj => ?_, V.beg i - V.film i, ?_⟩
            · rcases List.mem_cons.mp hs with rfl | hs
              · exact hi
              · rw [List.mem_singleton.mp hs]; exact ⟨hi, by omega, by omega⟩
            · by_cases c : j = i
              · subst c; simp [wat, wn, mv, up]; omega
              · simp [wat, wn, mv, up, c]
            · rw [bodyOf_eq, ← hb2]
              have d1 : V.beg i < wat V V.beg ss i := by omega
              have d2 : V.film i < V.beg i := by omega
              simp [ixv hi, ixw hi, encV, op_sub_i, op_lt_i, op_gt_i, c1, c2, d1, d2, hL0, hL1, encS, tuple_l, ha]
          · have ha := ssD_add ts [.tip i] (by simp; omega)
            simp only [List.map_cons, List.map_nil, encS] at ha
            refine ⟨[.tip i], fun s hs => ?_, by simp, step _ fun j hj => ?_, V.beg i - V.film i, ?_⟩
            · rw [List.mem_singleton.mp hs]; exact hi
            · by_cases c : j = i
              · subst c; simp [wat, wn, up]; omega
              · simp [wat, wn, up, c]
            · rw [bodyOf_eq, ← hb2]
              have d1 : V.beg i < wat V V.beg ss i := by omega
              have d2 : ¬ V.film i < V.beg i := by omega
              simp [ixv hi, ixw hi, encV, op_sub_i, op_lt_i, op_gt_i, c1, c2, d1, d2, encS, tuple_l, ha]
        · by_cases c2 : 0 < V.beg i - wat V V.beg ss i
          · have ha := ssD_add ts [.fill i (V.beg i - wat V V.beg ss i)] (by simp; omega)
            simp only [List.map_cons, List.map_nil, encS] at ha
            refine ⟨[.fill i (V.beg i - wat V V.beg ss i)], fun s hs => ?_, by simp, step _ fun j hj => ?_, V.beg i - wat V V.beg ss i, ?_⟩
            · rw [List.mem_singleton.mp hs]; exact ⟨hi, by omega, by omega⟩
            · by_cases c : j = i
              · subst c
                simp only [wat, List.foldl_cons, List.foldl_nil, wn, mv, up, if_true]
                have : List.foldl (wn V) V.beg ts j = wat V V.beg ss j := hwi
                rw [this]
                have : List.foldl (wn V) V.beg ss j = wat V V.beg ss j := rfl
                omega
              · simp [wat, wn, mv, up, c]
            · rw [bodyOf_eq, ← hb2]
              have d1 : ¬ V.beg i < wat V V.beg ss i := by omega
              have d2 : wat V V.beg ss i < V.beg i := by omega
              simp [ixv hi, ixw hi, encV, op_sub_i, op_lt_i, op_gt_i, c1, c2, d1, d2, hL0, hL1, encS, tuple_l, ha]
          · have ha := ssD_add ts [] (by simp; omega)
            simp only [List.map_nil] at ha
            refine ⟨[], fun s hs => (List.not_mem_nil hs).elim, by simp, step _ fun j hj => ?_, V.beg i - wat V V.beg ss i, ?_⟩
            · by_cases c : j = i
              · subst c
                simp only [wat, List.foldl_nil, if_true]
                have : List.foldl (wn V) V.beg ts j = wat V V.beg ss j := hwi
                omega
              · simp [wat, c]
            · rw [bodyOf_eq, ← hb2]
              have d1 : ¬ V.beg i < wat V V.beg ss i := by omega
              have d2 : ¬ wat V V.beg ss i < V.beg i := by omega
              simp [ixv hi, ixw hi, encV, op_sub_i, op_lt_i, op_gt_i, c1, c2, d1, d2, tuple_l, ha]
      obtain ⟨us, hu1, hu2, hu3, z8, hu4⟩ := key
      exact ⟨[.p (.mref m), .p (vsD n V), .p (ssD ts), .p (wD n (wat V V.beg ss)), y4, y5, .p (.int i), y7, y8], rfl, _, g, .inl hu4, ts ++ us, fun s h => (List.mem_append.mp h).elim (hts s) (hu1 s), by simp; omega, by simp; omega, hu3, _, _, _, _, _, rfl, hs⟩) ⟨ss, hss, Nat.le_refl _, by omega, fun j hj => by simp, y4, y5, y6, y7, y8, rfl, hs'⟩
  refine ⟨ts, g2, ?_, ⟨h1, h3, hV, by omega, by omega, hts, fun i hi => by rw [hw i hi, if_pos hi]⟩, hs2⟩
  subst he he2
  rw [b_law_way, hb, hb2]
  simp only [ssD, List.map_nil] at *
  simp [hst, hl, hm2, op_sub_i, q1, op_add_i, er, f1, items_rng (show n ≤ 1000000 by omega), f2, wayD, ssD]
end Rz
/-! RzM8 -/
set_option linter.all false
set_option maxRecDepth 100000
namespace Rz
def V3 (a0 a1 a2 b0 b1 b2 c0 c1 c2 : Int) : Ves :=
  ⟨fun i => if i = 0 then a0 else if i = 1 then b0 else c0, fun i => if i = 0 then a1 else if i = 1 then b1 else c1, fun i => if i = 0 then a2 else if i = 1 then b2 else c2⟩
theorem vsD_2 (a0 a1 a2 b0 b1 b2 c0 c1 c2 : Int) : vsD 2 (V3 a0 a1 a2 b0 b1 b2 c0 c1 c2) = .tup [.tup [.int a0, .int a1, .int a2], .tup [.int b0, .int b1, .int b2]] := rfl
theorem vsD_3 (a0 a1 a2 b0 b1 b2 c0 c1 c2 : Int) : vsD 3 (V3 a0 a1 a2 b0 b1 b2 c0 c1 c2) = .tup [.tup [.int a0, .int a1, .int a2], .tup [.int b0, .int b1, .int b2], .tup [.int c0, .int c1, .int c2]] := rfl
theorem way_of {n : Nat} {V : Ves} {ss : List Stp} (h0 : 0 < n) (h3 : n ≤ 3) (hV : ∀ i, i < n → VOk V i) (hl : 0 < ss.length) (h8 : ss.length ≤ 8) (hs : ∀ s ∈ ss, s.ok n) (hb : ∀ i, i < n → wat V V.beg ss i = V.beg i) : WayOk n V ss := ⟨h0, h3, hV, hl, h8, hs, hb⟩
theorem lt2 {i : Nat} (h : i < 2) : i = 0 ∨ i = 1 := by omega
theorem lt3 {i : Nat} (h : i < 3) : i = 0 ∨ i = 1 ∨ i = 2 := by omega
theorem ev_law_closed (k m : Nat) (g : Gs) (hs : Sv g m) : ∃ (n : Nat) (V : Ves) (ss : List Stp) (g' : Gs), evF TT (k + 2) i_law_closed [.mref m] g = .ok (wayD n V ss) g' ∧ WayOk n V ss ∧ Sv g' m := by
  obtain ⟨a, g1, q1, ha0, ha, hs1⟩ := sift_i k m 8 g hs (by decide) (by decide)
  obtain ⟨b, g2, q2, hb0, hb, hs2⟩ := sift_i k m 8 g1 hs1 (by decide) (by decide)
  obtain ⟨kd, g3, q3, hk0, hk, hs3⟩ := sift_i k m 4 g2 hs2 (by decide) (by decide)
  obtain ⟨z, g4, q4, hz0, hz, hs4⟩ := sift_i k m (min (3 + a - 2) 2) g3 hs3 (by omega) (by omega)
  rw [evF_s T_law_closed, runF_eq rfl]
  show ∃ (n : Nat) (V : Ves) (ss : List Stp) (g' : Gs), outR (evSs (evF TT (k + 1)) b_law_closed [.p (.mref m), .u, .u, .u, .u, .u, .u] g) = _ ∧ _
  have t2 : ∀ x y z : D, op2 .add (.tup [x, y]) (.tup [z]) = some (.tup [x, y, z]) := fun x y z => rfl
  have t3 : ∀ x y z w : D, op2 .add (.tup [x, y]) (.tup [z, w]) = some (.tup [x, y, z, w]) := fun x y z w => rfl
  have t4 : ∀ x y z w u v : D, op2 .add (.tup [x, y]) (.tup [z, w, u, v]) = some (.tup [x, y, z, w, u, v]) := fun x y z w u v => rfl
  have hkd : kd = 0 ∨ kd = 1 ∨ kd = 2 ∨ kd = 3 := by omega
  rcases hkd with rfl | rfl | rfl | rfl
  · refine ⟨2, V3 (3 + a) 1 (1 + z + 1) (3 + b + (1 + z)) 1 (3 + b - 1) 0 0 0, [.pour 0 1 (1 + z), .pour 1 0 (1 + z)], g4, ?_, way_of (by decide) (by decide) (fun i hi => ?_) (by simp) (by simp) (fun s hs => ?_) (fun i hi => ?_), hs4⟩
    · simp [b_law_closed, q1, q2, q3, q4, op_add_i, op_sub_i, min2_i, op_eq_i, wayD, vsD_2, ssD, encS]
    · rcases lt2 hi with rfl | rfl <;> constructor <;> simp [V3] <;> omega
    · simp at hs; rcases hs with rfl | rfl <;> simp [Stp.ok] <;> omega
    · rcases lt2 hi with rfl | rfl <;> simp [wat, wn, mv, up, V3] <;> omega
  · refine ⟨3, V3 (3 + a) 1 (1 + z + 1) (3 + b + (1 + z)) 1 (3 + b - 1) 6 2 2, [.pour 0 1 (1 + z), .pour 1 0 (1 + z), .fill 2 3, .tip 2], g4, ?_, way_of (by decide) (by decide) (fun i hi => ?_) (by simp) (by simp) (fun s hs => ?_) (fun i hi => ?_), hs4⟩
    · simp [b_law_closed, q1, q2, q3, q4, op_add_i, op_sub_i, min2_i, op_eq_i, wayD, vsD_3, ssD, encS, t2, t3]
    · rcases lt3 hi with rfl | rfl | rfl <;> constructor <;> simp [V3] <;> omega
    · simp at hs; rcases hs with rfl | rfl | rfl | rfl <;> simp [Stp.ok] <;> omega
    · rcases lt3 hi with rfl | rfl | rfl <;> simp [wat, wn, mv, up, V3] <;> omega
  · refine ⟨3, V3 (3 + a) 1 (1 + z + 1) (3 + b + (1 + z)) 1 (3 + b - 1) 6 2 3, [.pour 0 1 (1 + z), .pour 1 0 (1 + z), .pour 2 0 1, .pour 0 2 1], g4, ?_, way_of (by decide) (by decide) (fun i hi => ?_) (by simp) (by simp) (fun s hs => ?_) (fun i hi => ?_), hs4⟩
    · simp [b_law_closed, q1, q2, q3, q4, op_add_i, op_sub_i, min2_i, op_eq_i, wayD, vsD_3, ssD, encS, t2, t3]
    · rcases lt3 hi with rfl | rfl | rfl <;> constructor <;> simp [V3] <;> omega
    · simp at hs; rcases hs with rfl | rfl | rfl | rfl <;> simp [Stp.ok] <;> omega
    · rcases lt3 hi with rfl | rfl | rfl <;> simp [wat, wn, mv, up, V3] <;> omega
  · refine ⟨3, V3 (3 + a) 1 (1 + z + 1) (3 + b + (1 + z)) 1 (3 + b - 1) 6 2 2, [.pour 0 1 (1 + z), .pour 1 0 (1 + z), .fill 2 1, .pour 2 0 1, .pour 0 2 1, .tip 2], g4, ?_, way_of (by decide) (by decide) (fun i hi => ?_) (by simp) (by simp) (fun s hs => ?_) (fun i hi => ?_), hs4⟩
    · simp [b_law_closed, q1, q2, q3, q4, op_add_i, op_sub_i, min2_i, op_eq_i, wayD, vsD_3, ssD, encS, t2, t4]
    · rcases lt3 hi with rfl | rfl | rfl <;> constructor <;> simp [V3] <;> omega
    · simp at hs; rcases hs with rfl | rfl | rfl | rfl | rfl | rfl <;> simp [Stp.ok] <;> omega
    · rcases lt3 hi with rfl | rfl | rfl <;> simp [wat, wn, mv, up, V3] <;> omega
end Rz
/-! RzM9 -/
set_option linter.all false
set_option maxRecDepth 100000
namespace Rz
/-! ### equal data -/
structure Pl (k : Nat) (d : D) : Prop where
  shp : D.shp k d = true
  refl : D.eqv d d = true
theorem shp_int (k : Nat) (i : Int) : D.shp k (.int i) = true := by cases k <;> rfl
theorem shps_all : ∀ (k : Nat) (ds : List D), (∀ d ∈ ds, D.shp k d = true) → D.shps k ds = true
  | k, [], _ => by cases k <;> rfl
  | k, d :: ds, h => by
    have h1 := h d (List.mem_cons_self ..)
    have h2 := shps_all k ds fun e he => h e (List.mem_cons_of_mem _ he)
    cases k <;> (show (D.shp _ d && D.shps _ ds) = true; rw [h1, h2]; rfl)
theorem eqvs_refl : ∀ (ds : List D), (∀ d ∈ ds, D.eqv d d = true) → D.eqvs ds ds = true
  | [], _ => rfl
  | d :: ds, h => by
    show (D.eqv d d && D.eqvs ds ds) = true
    rw [h d (List.mem_cons_self ..), eqvs_refl ds fun e he => h e (List.mem_cons_of_mem _ he)]; rfl
theorem pl_int (k : Nat) (i : Int) : Pl k (.int i) := ⟨shp_int k i, by show (i == i) = true; simp⟩
theorem pl_tup {k : Nat} {ds : List D} (h : ∀ d ∈ ds, Pl k d) : Pl (k + 1) (.tup ds) := ⟨shps_all k ds fun d hd => (h d hd).shp, eqvs_refl ds fun d hd => (h d hd).refl⟩
theorem pl_tf {k n : Nat} {f : Nat → D} (h : ∀ i, i < n → Pl k (f i)) : Pl (k + 1) (tf n f) := pl_tup fun d hd => by
  obtain ⟨i, hi, rfl⟩ := List.mem_map.mp hd
  exact h i (List.mem_range.mp hi)
theorem pl_fr (k : Nat) (q : Rat) : Pl (k + 1) (fr q) := pl_tup fun d hd => by
  simp at hd
  rcases hd with rfl | rfl <;> exact pl_int _ _
theorem eq_self {d : D} (h : Pl 60 d) : op2 .eq d d = some (.bl true) := by
  show (if shp2 d d = true then some (D.bl (D.eqv d d)) else none) = _
  have : shp2 d d = true := by unfold shp2; rw [h.shp]; rfl
  rw [if_pos this, h.refl]
theorem ne_self {d : D} (h : Pl 60 d) : op2 .ne d d = some (.bl false) := by
  show (if shp2 d d = true then some (D.bl (!D.eqv d d)) else none) = _
  have : shp2 d d = true := by unfold shp2; rw [h.shp]; rfl
  rw [if_pos this, h.refl]; rfl
theorem pl_wD (k n : Nat) (w : Nat → Int) : Pl (k + 1) (wD n w) := pl_tf fun i _ => pl_int k _
theorem pl_row (k n : Nat) (x : Nat → Rat) : Pl (k + 2) (row n x) := pl_tf fun i _ => pl_fr k _
/-! ### the checks of a way -/
theorem T_is_integer : TT i_is_integer = some d_is_integer := rfl
theorem T_is_from : TT i_is_from = some d_is_from := rfl
theorem T_is_vessel : TT i_is_vessel = some d_is_vessel := rfl
theorem T_is_step : TT i_is_step = some d_is_step := rfl
theorem T_all_waters : TT i_all_waters = some d_all_waters := rfl
theorem T_is_good : TT i_is_good = some d_is_good := rfl
theorem T_need_way : TT i_need_way = some d_need_way := rfl
theorem isint_i (i : Int) : bi .isint [.int i] = some (.bl true) := rfl
theorem isbool_i (i : Int) : bi .isbool [.int i] = some (.bl false) := rfl
theorem istup_t (ds : List D) : bi .istup [.tup ds] = some (.bl true) := rfl
theorem ev_is_integer (k : Nat) (i : Int) (g : Gs) : evF TT (k + 1) i_is_integer [.int i] g = .ok (.bl true) g := by
  rw [evF_s T_is_integer, runF_eq rfl]
  show outR (evSs (evF TT k) b_is_integer [.p (.int i)] g) = _
  simp [b_is_integer, isint_i, isbool_i]
theorem ev_is_from (k : Nat) (x lo hi : Int) (g : Gs) : evF TT (k + 2) i_is_from [.int x, .int lo, .int hi] g = .ok (.bl (decide (lo ≤ x) && decide (x ≤ hi))) g := by
  rw [evF_s T_is_from, runF_eq rfl]
  show outR (evSs (evF TT (k + 1)) b_is_from [.p (.int x), .p (.int lo), .p (.int hi)] g) = _
  by_cases h : lo ≤ x <;> simp [b_is_from, ev_is_integer k x g, op_le_i, h]
theorem is_from_t (k : Nat) {x lo hi : Int} (g : Gs) (h1 : lo ≤ x) (h2 : x ≤ hi) : evF TT (k + 2) i_is_from [.int x, .int lo, .int hi] g = .ok (.bl true) g := by
  rw [ev_is_from, decide_eq_true h1, decide_eq_true h2]; rfl
theorem ev_is_vessel (k : Nat) (V : Ves) (i : Nat) (g : Gs) (h : VOk V i) : evF TT (k + 3) i_is_vessel [encV V i] g = .ok (.bl true) g := by
  rw [evF_s T_is_vessel, runF_eq rfl]
  show outR (evSs (evF TT (k + 2)) b_is_vessel [.p (encV V i)] g) = _
  have f1 := is_from_t k g h.r1 h.r2
  have f2 := is_from_t k g h.f1 h.f2
  have f3 := is_from_t k g h.b1 h.b2
  have hne : op2 .ne (.int 3) (.int 3) = some (.bl false) := rfl
  simp [b_is_vessel, encV, istup_t, len_t, hne, f1, f2, f3, op_sub_i]
theorem isstr_s (s : List Nat) : bi .isstr [.str s] = some (.bl true) := rfl
theorem eq_cons_nil (d : D) (ds : List D) (h : D.shp 60 (.tup (d :: ds)) = true) : op2 .eq (.tup (d :: ds)) (.tup []) = some (.bl false) := by
  show (if shp2 (.tup (d :: ds)) (.tup []) = true then some (D.bl (D.eqv (.tup (d :: ds)) (.tup []))) else none) = _
  have : shp2 (.tup (d :: ds)) (.tup []) = true := by unfold shp2; rw [h]; rfl
  rw [if_pos this]; rfl
theorem pl_str (k : Nat) (s : List Nat) (h : s.all (fun c => Nat.blt c 55296) = true) : Pl k (.str s) := ⟨by cases k <;> exact h, by show (s == s) = true; simp⟩
theorem pl_encS (k : Nat) (s : Stp) : Pl (k + 1) (encS s) := by
  cases s <;> refine pl_tup fun d hd => ?_ <;> simp at hd
  · rcases hd with rfl | rfl | rfl
    · exact pl_str _ _ rfl
    · exact pl_int _ _
    · exact pl_int _ _
  · rcases hd with rfl | rfl | rfl | rfl
    · exact pl_str _ _ rfl
    · exact pl_int _ _
    · exact pl_int _ _
    · exact pl_int _ _
  · rcases hd with rfl | rfl
    · exact pl_str _ _ rfl
    · exact pl_int _ _
theorem ev_is_step (k n : Nat) (s : Stp) (g : Gs) (h : s.ok n) : evF TT (k + 3) i_is_step [.int (n : Int), encS s] g = .ok (.bl true) g := by
  rw [evF_s T_is_step, runF_eq rfl]
  show outR (evSs (evF TT (k + 2)) b_is_step [.p (.int (n : Int)), .p (encS s)] g) = _
  have hp := (pl_encS 59 s).shp
  cases s with
  | fill a z =>
    obtain ⟨ha, h1, h2⟩ := h
    have e := eq_cons_nil _ _ hp
    have f1 := is_from_t k g (x := (a : Int)) (lo := 0) (hi := (n : Int) - 1) (by omega) (by omega)
    have f2 := is_from_t k g h1 h2
    have hn : op2 .eq (.int 3) (.int 3) = some (.bl true) := rfl
    simp [b_is_step, encS, istup_t, e, isstr_s, len_t, op_sub_i, f1, f2, hn]
  | tip a =>
    have ha : a < n := h
    have e := eq_cons_nil _ _ hp
    have f1 := is_from_t k g (x := (a : Int)) (lo := 0) (hi := (n : Int) - 1) (by omega) (by omega)
    have hn : op2 .eq (.int 2) (.int 2) = some (.bl true) := rfl
    simp [b_is_step, encS, istup_t, e, isstr_s, len_t, op_sub_i, f1, hn]
  | pour a b z =>
    obtain ⟨ha, hb, hab, h1, h2⟩ := h
    have e := eq_cons_nil _ _ hp
    have f1 := is_from_t k g (x := (a : Int)) (lo := 0) (hi := (n : Int) - 1) (by omega) (by omega)
    have f2 := is_from_t k g (x := (b : Int)) (lo := 0) (hi := (n : Int) - 1) (by omega) (by omega)
    have f3 := is_from_t k g h1 h2
    have hn : op2 .ne (.int 4) (.int 4) = some (.bl false) := rfl
    have hn2 : op2 .ne (.int (a : Int)) (.int (b : Int)) = some (.bl true) := by rw [op_ne_i, decide_eq_false (by omega)]; rfl
    simp [b_is_step, encS, istup_t, e, isstr_s, len_t, op_sub_i, f1, f2, f3, hn, hn2]
/-! ### over lists -/
section
variable {C : Nat → List D → Gs → R D} {env : Env} {g : Gs}
theorem compD_l {e : Ex} {t : Tg} {α : Type} (l : List α) (enc y : α → D) (hn : l.length ≤ 1000000) (h : ∀ a ∈ l, ∃ e1, bindT t (enc a) (wipeS t.ix env) = some e1 ∧ evE C e e1 g = .ok (y a) g) :
    compD C e t [] env g (some (l.map enc)) = .ok (.lst (l.map y)) g := by
  unfold compD
  have hz : Nat.ble (l.map enc).length lineN = true := Nat.ble_eq_true_of_le (by simpa [lineN] using hn)
  simp only [hz, if_true]
  have L := compL_map (f := fun env g => evE C e env g) (c := fun env g => evC C [] env g) (t := t) (env := wipeS t.ix env) (g := g) y enc (fun _ _ => rfl) l h
  rw [L]
theorem forL_l {b : Env → Gs → SR} {t : Tg} {α : Type} {enc : α → D} (P : List α → Env → Gs → Prop) (l : List α) (h : ∀ pre a env g, a ∈ l → pre.length < l.length → P pre env g → ∃ e1, bindT t (enc a) env = some e1 ∧ ∃ env' g', (b e1 g = .nx env' g' ∨ b e1 g = .cnt env' g') ∧ P (pre ++ [a]) env' g') (h0 : P [] env g) :
    ∃ env' g', forL b t (l.map enc) env g = .nx env' g' ∧ P l env' g' := by
  have key : ∀ (m : List α) (pre : List α) (env : Env) (g : Gs), l = pre ++ m → P pre env g → ∃ env' g', forL b t (m.map enc) env g = .nx env' g' ∧ P l env' g' := by
    intro m
    induction m with
    | nil =>
      intro pre env g hl hp
      rw [List.append_nil] at hl
      subst hl
      exact ⟨env, g, rfl, hp⟩
    | cons a m ih =>
      intro pre env g hl hp
      obtain ⟨e1, h1, env', g', h2, h3⟩ := h pre a env g (by rw [hl]; simp) (by rw [hl]; simp) hp
      obtain ⟨env2, g2, h4, h5⟩ := ih (pre ++ [a]) env' g' (by rw [hl]; simp) h3
      refine ⟨env2, g2, ?_, h5⟩
      rw [List.map_cons]
      unfold forL
      rw [h1]
      rcases h2 with h2 | h2 <;> (simp only [h2]; exact h4)
  exact key l [] env g rfl h0
end
theorem all_true {α : Type} (l : List α) : bi .all [.lst (l.map fun _ => D.bl true)] = some (.bl true) := by
  have : ∀ l : List α, blsOf (l.map fun _ => D.bl true) = some (l.map fun _ => true) := fun l => by
    induction l with
    | nil => rfl
    | cons a l ih => show (blsOf (l.map fun _ => D.bl true)).map (true :: ·) = _; rw [ih]; rfl
  show (blsOf (l.map fun _ => D.bl true)).map (fun bs => D.bl (bs.all id)) = _
  rw [this]
  simp
theorem ix_last (g : Gs) (ds : List D) (d : D) : ixD g (.lst (ds ++ [d])) (.int (-1)) = some d := by
  show atI (ds ++ [d]) (-1) = _
  unfold atI ixN
  rw [if_neg (by omega), if_pos (by simp; omega)]
  have : (-1 + ((ds ++ [d]).length : Int)).toNat = ds.length := by simp; omega
  rw [this]
  simp
theorem slice_lo_l (ds : List D) (p : Nat) (h : p ≤ ds.length) : slD .lo (.lst ds) [.int (p : Int)] = some (.lst (ds.drop p)) := by
  show some (D.lst (cut ds (some (p : Int)) none)) = _
  unfold cut sIx
  simp only
  rw [if_neg (by omega)]
  have e : min (p : Int).toNat ds.length = p := by omega
  rw [e, List.take_of_length_le (by simp)]
theorem ev_all_waters (k n : Nat) (V : Ves) (ss : List Stp) (g : Gs) (hn : n ≤ 1000) (hl : ss.length ≤ 1000) (hs : ∀ s ∈ ss, s.ok n) :
    ∃ ds : List D, evF TT (k + 3) i_all_waters [wayD n V ss] g = .ok (.lst ((ds ++ [wD n (wat V V.beg ss)]).drop 1)) g ∧ ds.length = ss.length := by
  rw [evF_s T_all_waters, runF_eq rfl]
  show ∃ ds : List D, outR (evSs (evF TT (k + 2)) b_all_waters [.p (wayD n V ss), .u, .u, .u, .u] g) = _ ∧ _
  have hb := ev_begins (k + 1) n V g hn
  obtain ⟨env', g', f1, hg, ds, hd, y4, he⟩ := forL_l (t := .nm 4) (enc := encS) (b := bodyOf (evF TT (k + 2)) [.asg 3 (.op .add (.var 3) (.lst [.call i_waters_behind [.var 1, .ix (.var 3) (.neg (.lit (.int 1))), .var 4]]))])
    (env := [.p (wayD n V ss), .p (vsD n V), .p (ssD ss), .p (.lst [wD n V.beg]), .u]) (g := g)
    (fun pre e g' => g' = g ∧ ∃ ds : List D, ds.length = pre.length ∧ ∃ y4, e = [.p (wayD n V ss), .p (vsD n V), .p (ssD ss), .p (.lst (ds ++ [wD n (wat V V.beg pre)])), y4]) ss (fun pre s e g' hm hlt ⟨hg, ds, hd, y4, he⟩ => by
      subst he hg
      have w := ev_waters k n V (wat V V.beg pre) s g' (hs s hm) hn
      have ha : op2 .add (.lst (ds ++ [wD n (wat V V.beg pre)])) (.lst [wD n (wn V (wat V V.beg pre) s)]) = some (.lst ((ds ++ [wD n (wat V V.beg pre)]) ++ [wD n (wat V V.beg (pre ++ [s]))])) := by
        rw [wat_snoc]; exact op_add_l (by simp; omega)
      refine ⟨[.p (wayD n V ss), .p (vsD n V), .p (ssD ss), .p (.lst (ds ++ [wD n (wat V V.beg pre)])), .p (encS s)], rfl, [.p (wayD n V ss), .p (vsD n V), .p (ssD ss), .p (.lst ((ds ++ [wD n (wat V V.beg pre)]) ++ [wD n (wat V V.beg (pre ++ [s]))])), .p (encS s)], g', .inl ?_, rfl, ds ++ [wD n (wat V V.beg pre)], by simp [hd], _, rfl⟩
      simp only [bodyOf_eq, evSs_cons, evSs_nil, evS_asg, evE_op, evE_var, evE_lst, evEs_cons, evEs_nil, evE_call, evE_ix, evE_neg, evE_lit, getS_z, getS_s, slV_p, bind_ok, negD_int, ix_last, of_some, w, ha, to_ok, setS_z, setS_s, thenS_nx]) ⟨rfl, [], rfl, .u, rfl⟩
  subst he hg
  have hi : items .seq [ssD ss] = some (ss.map encS) := rfl
  have h1 := slice_lo_l (ds ++ [wD n (wat V V.beg ss)]) 1 (by simp)
  refine ⟨ds, ?_, hd⟩
  have hx : slD .lo (.lst (ds ++ [wD n (wat V V.beg ss)])) [.int 1] = some (.lst ((ds ++ [wD n (wat V V.beg ss)]).drop 1)) := h1
  simp only [wayD, b_all_waters, evSs_cons, evSs_nil, evS_unp, evS_asg, evE_var, evE_lst, evEs_cons, evEs_nil, evE_call, getS_z, getS_s, slV_p, to_ok, bind_t2, setS_z, setS_s, nxO_some, thenS_nx, bind_ok, hb, evS_for, fork_ok, hi, forD_some]
  simp only [wayD] at f1
  simp only [f1, thenS_nx, evSs_cons, evS_ret, evE_sl, evE_var, getS_z, getS_s, slV_p, bind_ok, evIs_cons, evIs_nil, evE_lit, toI_int, hx, of_some, to_ok, thenS_ret, outR_ret]
theorem ev_is_good (k n : Nat) (V : Ves) (ss : List Stp) (g : Gs) (h : WayOk n V ss) : evF TT (k + 4) i_is_good [wayD n V ss] g = .ok (.bl true) g := by
  rw [evF_s T_is_good, runF_eq rfl]
  show outR (evSs (evF TT (k + 3)) b_is_good [.p (wayD n V ss), .u, .u] g) = _
  have n3 := h.n3
  have n0 := h.n0
  have s0 := h.s0
  have s8 := h.s8
  obtain ⟨ds, hw, hd⟩ := ev_all_waters k n V ss g (by omega) (by omega) h.sok
  have hb := ev_begins (k + 2) n V g (by omega)
  have c1 : compD (evF TT (k + 3)) (.call i_is_vessel [.var 1]) (.nm 1) [] [.p (wayD n V ss), .u, .u] g (some ((List.range n).map (encV V))) = .ok (.lst ((List.range n).map fun _ => .bl true)) g :=
    compD_l (List.range n) (encV V) (fun _ => .bl true) (by simp; omega) fun i hi => ⟨[.p (wayD n V ss), .p (encV V i), .u], rfl, by simp [ev_is_vessel k V i g (h.vok i (List.mem_range.mp hi))]⟩
  have hln : bi .len [vsD n V] = some (.int (n : Int)) := len_tf _ _
  have hls : bi .len [ssD ss] = some (.int (ss.length : Int)) := by unfold ssD; rw [len_t]; simp
  have c2 : compD (evF TT (k + 3)) (.call i_is_step [.bi .len [.ix (.var 0) (.lit (.int 0))], .var 2]) (.nm 2) [] [.p (wayD n V ss), .u, .u] g (some (ss.map encS)) = .ok (.lst (ss.map fun _ => .bl true)) g :=
    compD_l ss encS (fun _ => .bl true) (by omega) fun s hs => ⟨[.p (wayD n V ss), .u, .p (encS s)], rfl, by
      have := ev_is_step k n s g (h.sok s hs)
      simp [wayD, hln, this]⟩
  have e1 : bi .len [wayD n V ss] = some (.int 2) := rfl
  have e2 : bi .istup [wayD n V ss] = some (.bl true) := rfl
  have e3 : bi .istup [vsD n V] = some (.bl true) := rfl
  have e4 : bi .istup [ssD ss] = some (.bl true) := rfl
  have x0 : ∀ g, ixD g (wayD n V ss) (.int 0) = some (vsD n V) := fun g => ix_t0 g _ _
  have x1 : ∀ g, ixD g (wayD n V ss) (.int 1) = some (ssD ss) := fun g => ix_t1 g _ _ _
  have ne2 : op2 .ne (.int 2) (.int 2) = some (.bl false) := rfl
  have a1 := all_true (List.range n)
  have a2 := all_true ss
  have i1 : items .seq [vsD n V] = some ((List.range n).map (encV V)) := items_seq (sq_tf _ _)
  have i2 : items .seq [ssD ss] = some (ss.map encS) := rfl
  have l1 : op2 .le (.int 1) (.int (n : Int)) = some (.bl true) := by rw [op_le_i, decide_eq_true (by omega)]
  have l2 : op2 .le (.int (n : Int)) (.int 3) = some (.bl true) := by rw [op_le_i, decide_eq_true (by omega)]
  have l3 : op2 .le (.int 1) (.int (ss.length : Int)) = some (.bl true) := by rw [op_le_i, decide_eq_true (by omega)]
  have l4 : op2 .le (.int (ss.length : Int)) (.int 8) = some (.bl true) := by rw [op_le_i, decide_eq_true (by omega)]
  have hx : ixD g (.lst ((ds ++ [wD n (wat V V.beg ss)]).drop 1)) (.int (-1)) = some (wD n V.beg) := by
    cases ds with
    | nil => simp at hd; omega
    | cons d ds =>
      show ixD g (.lst (ds ++ [_])) _ = _
      rw [ix_last, wD_congr h.back]
  have eq := eq_self (pl_wD 59 n V.beg)
  simp only [b_is_good, evSs_cons, evSs_nil, evS_ite, evE_or, evE_not, evE_bi, evEs_cons, evEs_nil, evE_var, getS_z, getS_s, slV_p, bind_ok, e2, of_some, notD_bl, Bool.not_true, iteD_bl, Bool.false_eq_true, if_false, evE_op, e1, evE_lit, ne2, evE_ix, x0, e3, to_ok, thenS_nx, evE_chain, hln, l1, l2, chD_bl, if_true, evE_comp, i1, c1, a1, x1, e4, hls, l3, l4, i2, c2, a2, evS_ret, evE_call, hw, evE_neg, negD_int, hx, hb, eq, thenS_ret, outR_ret]
theorem ev_need_way (k n : Nat) (V : Ves) (ss : List Stp) (g : Gs) (h : WayOk n V ss) : evF TT (k + 5) i_need_way [wayD n V ss] g = .ok .non g := by
  rw [evF_s T_need_way, runF_eq rfl]
  show outR (evSs (evF TT (k + 4)) b_need_way [.p (wayD n V ss)] g) = _
  simp [b_need_way, ev_is_good k n V ss g h]
end Rz
/-! RzM10 -/
set_option linter.all false
set_option maxRecDepth 100000
set_option exponentiation.threshold 20000
namespace Rz
/-! ### plain facts of Rat -/
theorem div_mul_c {m w : Rat} (h : 0 < w) : m / w * w = m := by grind
theorem div_le_one {m w : Rat} (h : 0 < w) (hw : m ≤ w) : m / w ≤ 1 :=
  Rat.le_of_mul_le_mul_right (by rw [div_mul_c h]; grind) h
theorem div_nn {m w : Rat} (h : 0 < w) (hm : 0 ≤ m) : 0 ≤ m / w :=
  Rat.le_of_mul_le_mul_right (by rw [div_mul_c h]; grind) h
theorem mul_le_self {x f : Rat} (hx : 0 ≤ x) (hf : f ≤ 1) : x * f ≤ x := by
  have := Rat.mul_le_mul_of_nonneg_left hf hx
  grind
/-- D times q is an integer -/
def Iz (D : Nat) (q : Rat) : Prop := ∃ z : Int, q * (D : Rat) = (z : Rat)
theorem Iz.int (D : Nat) (i : Int) : Iz D (i : Rat) := ⟨i * D, by push_cast; rfl⟩
theorem Iz.zero (D : Nat) : Iz D 0 := ⟨0, by grind⟩
theorem Iz.add {D : Nat} {a b : Rat} (ha : Iz D a) (hb : Iz D b) : Iz D (a + b) := by
  obtain ⟨x, hx⟩ := ha
  obtain ⟨y, hy⟩ := hb
  exact ⟨x + y, by push_cast; grind⟩
theorem Iz.sub {D : Nat} {a b : Rat} (ha : Iz D a) (hb : Iz D b) : Iz D (a - b) := by
  obtain ⟨x, hx⟩ := ha
  obtain ⟨y, hy⟩ := hb
  exact ⟨x - y, by push_cast; grind⟩
theorem Iz.mul {D E : Nat} {a b : Rat} (ha : Iz D a) (hb : Iz E b) : Iz (D * E) (a * b) := by
  obtain ⟨x, hx⟩ := ha
  obtain ⟨y, hy⟩ := hb
  exact ⟨x * y, by push_cast; grind⟩
theorem Iz.more {D : Nat} (E : Nat) {a : Rat} (ha : Iz D a) : Iz (D * E) a := by
  obtain ⟨x, hx⟩ := ha
  exact ⟨x * E, by push_cast; grind⟩
theorem Iz.div {w : Nat} (h : w ≠ 0) (m : Int) : Iz w ((m : Rat) / (w : Rat)) := ⟨m, by
  have : (w : Rat) ≠ 0 := by exact_mod_cast h
  grind⟩
theorem num_eq (q : Rat) : (q.num : Rat) = q * (q.den : Rat) := by
  have h1 := Rat.num_divInt_den q
  rw [Rat.divInt_eq_div] at h1
  have h2 : ((q.den : Int) : Rat) ≠ 0 := by
    have := q.den_nz
    exact_mod_cast this
  have h3 : ((q.den : Int) : Rat) = (q.den : Rat) := by push_cast; rfl
  rw [← h3]
  grind
theorem Iz.den {D : Nat} {q : Rat} (h : Iz D q) : q.den ∣ D := by
  obtain ⟨z, hz⟩ := h
  have e : (q.num * (D : Int) : Int) = z * (q.den : Int) := by
    have h1 := num_eq q
    have : ((q.num * (D : Int) : Int) : Rat) = ((z * (q.den : Int) : Int) : Rat) := by
      push_cast; rw [h1, ← hz]; grind
    exact Rat.intCast_inj.mp this
  have d1 : (q.den : Int) ∣ q.num * (D : Int) := ⟨z, by rw [e, Int.mul_comm]⟩
  have d2 : q.den ∣ q.num.natAbs * D := by
    have := Int.natAbs_dvd_natAbs.mpr d1
    rw [Int.natAbs_mul] at this
    simpa using this
  exact (Nat.Coprime.symm q.reduced).dvd_of_dvd_mul_left d2
/-- a number from 0 to M, D times it an integer -/
structure Rd (D M : Nat) (q : Rat) : Prop where
  iz : Iz D q
  lo : 0 ≤ q
  hi : q ≤ (M : Rat)
theorem Rd.num_le {D M : Nat} {q : Rat} (h : Rd D M q) : q.num.natAbs ≤ M * q.den := by
  have h1 := num_eq q
  have h2 : (0 : Rat) ≤ (q.den : Rat) := by exact_mod_cast Nat.zero_le q.den
  have h3 := Rat.mul_le_mul_of_nonneg_right h.hi h2
  have h4 : ((q.num : Int) : Rat) ≤ (((M * q.den : Nat) : Int) : Rat) := by
    rw [h1]; push_cast; exact h3
  have h5 : q.num ≤ ((M * q.den : Nat) : Int) := Rat.intCast_le_intCast.mp h4
  have h6 : 0 ≤ q.num := Rat.num_nonneg.mpr h.lo
  omega
theorem Rd.sm {D M : Nat} {q : Rat} (h : Rd D M q) (hD : 0 < D) (hM : 0 < M) (hb : M * D < BB) : Sm q := by
  have d := Nat.le_of_dvd hD h.iz.den
  have n := h.num_le
  have e : M * q.den ≤ M * D := Nat.mul_le_mul_left M d
  have e2 : D ≤ M * D := Nat.le_mul_of_pos_left D hM
  exact ⟨by omega, by omega⟩
/-! ### sums -/
theorem sumN_congr {n : Nat} {x y : Nat → Rat} (h : ∀ i, i < n → x i = y i) : sumN n x = sumN n y := by
  induction n with
  | zero => rfl
  | succ n ih => rw [sumN, sumN, ih fun i hi => h i (by omega), h n (by omega)]
theorem sumN_up {n : Nat} (x : Nat → Rat) (a : Nat) (v : Rat) : sumN n (up x a v) = if a < n then sumN n x - x a + v else sumN n x := by
  induction n with
  | zero => simp [sumN]
  | succ n ih =>
    rw [sumN, sumN, ih]
    by_cases h : a < n
    · rw [if_pos h, if_pos (by omega)]
      have : up x a v n = x n := by simp only [up]; rw [if_neg (by omega)]
      rw [this]; grind
    · by_cases h2 : a = n
      · subst h2
        rw [if_neg h, if_pos (by omega)]
        have : up x a v a = v := by simp [up]
        rw [this]; grind
      · rw [if_neg h, if_neg (by omega)]
        have : up x a v n = x n := by simp only [up]; rw [if_neg (by omega)]
        rw [this]
theorem sumN_nn {n : Nat} {x : Nat → Rat} (h : ∀ i, i < n → 0 ≤ x i) : 0 ≤ sumN n x := by
  induction n with
  | zero => exact Rat.le_refl
  | succ n ih =>
    have h1 := ih fun i hi => h i (by omega)
    have h2 := h n (by omega)
    rw [sumN]; grind
theorem sumN_mono {n m : Nat} {x : Nat → Rat} (h : ∀ i, i < n → 0 ≤ x i) (hm : m ≤ n) : sumN m x ≤ sumN n x := by
  induction n with
  | zero => have : m = 0 := by omega
            subst this; exact Rat.le_refl
  | succ n ih =>
    by_cases c : m = n + 1
    · subst c; exact Rat.le_refl
    · have h1 := ih (fun i hi => h i (by omega)) (by omega)
      have h2 := h n (by omega)
      rw [sumN]; grind
theorem sumN_le {n : Nat} {x : Nat → Rat} (h : ∀ i, i < n → 0 ≤ x i) {a : Nat} (ha : a < n) : x a ≤ sumN n x := by
  have h1 := sumN_mono h (show a + 1 ≤ n by omega)
  have h2 := sumN_nn (n := a) fun i hi => h i (by omega)
  rw [sumN] at h1; grind
theorem sumN_iz {D n : Nat} {x : Nat → Rat} (h : ∀ i, i < n → Iz D (x i)) : Iz D (sumN n x) := by
  induction n with
  | zero => exact .zero D
  | succ n ih => exact (ih fun i hi => h i (by omega)).add (h n (by omega))

/-! ### dirt -/
/-- the part of a vessel's dirt that a step moves -/
def pt (V : Ves) (w : Nat → Int) (s : Stp) : Rat := match s with
  | .fill _ _ => 0
  | .pour a b z => (mv V w (.pour a b z) : Rat) / (w a : Rat)
  | .tip a => (mv V w (.tip a) : Rat) / (w a : Rat)
def dx (V : Ves) (w : Nat → Int) (x : Nat → Rat) (s : Stp) : Nat → Rat := match s with
  | .fill _ _ => x
  | .pour a b z => up (up x a (x a - x a * pt V w (.pour a b z))) b (x b + x a * pt V w (.pour a b z))
  | .tip a => up x a (x a - x a * pt V w (.tip a))
def dl (V : Ves) (w : Nat → Int) (x : Nat → Rat) (s : Stp) : Rat := match s with
  | .tip a => x a * pt V w (.tip a)
  | _ => 0
/-- the water that a step divides by -/
def wf (w : Nat → Int) (s : Stp) : Nat := match s with
  | .fill _ _ => 1
  | .pour a _ _ => (w a).toNat
  | .tip a => (w a).toNat
theorem wf_pos {V : Ves} {n : Nat} {w : Nat → Int} {s : Stp} (hV : ∀ i, i < n → VOk V i) (h : WOk V n w) (hs : s.ok n) : 0 < wf w s ∧ wf w s ≤ 12 := by
  cases s with
  | fill a z => simp [wf]
  | tip a =>
    have ha : a < n := hs
    have := h.lo a ha; have := h.hi a ha; have := (hV a ha).f1; have := (hV a ha).r2
    simp only [wf]; omega
  | pour a b z =>
    obtain ⟨ha, _⟩ := hs
    have := h.lo a ha; have := h.hi a ha; have := (hV a ha).f1; have := (hV a ha).r2
    simp only [wf]; omega
theorem w_cast {x : Int} (h : 0 < x) : (x : Rat) = ((x.toNat : Nat) : Rat) := by
  obtain ⟨n, rfl⟩ := Int.eq_ofNat_of_zero_le (Int.le_of_lt h)
  have e : ((n : Int) : Rat) = (n : Rat) := by push_cast; rfl
  rw [e]; rfl
theorem pt_rd {V : Ves} {n : Nat} {w : Nat → Int} {s : Stp} (hV : ∀ i, i < n → VOk V i) (h : WOk V n w) (hs : s.ok n) : Rd (wf w s) 1 (pt V w s) := by
  have key : ∀ (a : Nat) (m : Int), a < n → 0 ≤ m → m ≤ w a → Rd (w a).toNat 1 ((m : Rat) / (w a : Rat)) := fun a m ha h0 h1 => by
    have := h.lo a ha; have := (hV a ha).f1
    have hw : 0 < w a := by omega
    have hp : (0 : Rat) < (w a : Rat) := by exact_mod_cast hw
    have hm : (0 : Rat) ≤ (m : Rat) := by exact_mod_cast h0
    have hmw : (m : Rat) ≤ (w a : Rat) := Rat.intCast_le_intCast.mpr h1
    refine ⟨?_, div_nn hp hm, ?_⟩
    · rw [w_cast hw]; exact Iz.div (by omega) m
    · have := div_le_one hp hmw
      simpa using this
  cases s with
  | fill a z => exact ⟨.zero _, Rat.le_refl, by
      have : (0 : Rat) ≤ ((1 : Nat) : Rat) := by exact_mod_cast Nat.zero_le 1
      exact this⟩
  | tip a =>
    have ha : a < n := hs
    have := h.lo a ha; have := h.hi a ha; have := (hV a ha).f1
    exact key a _ ha (by simp only [mv]; omega) (by simp only [mv]; omega)
  | pour a b z =>
    obtain ⟨ha, hb, hab, hz⟩ := hs
    have := h.lo a ha; have := h.hi a ha; have := (hV a ha).f1
    have := h.hi b hb
    exact key a _ ha (by simp only [mv]; omega) (by simp only [mv]; omega)
/-- dirt that may be reckoned with: n numbers from 0 on, M in all, D times each an integer -/
structure Dr (D M n : Nat) (x : Nat → Rat) : Prop where
  iz : ∀ i, i < n → Iz D (x i)
  lo : ∀ i, i < n → 0 ≤ x i
  sum : sumN n x ≤ (M : Rat)
theorem Dr.rd {D M n : Nat} {x : Nat → Rat} (h : Dr D M n x) {i : Nat} (hi : i < n) : Rd D M (x i) := ⟨h.iz i hi, h.lo i hi, by
  have h1 := sumN_le h.lo hi
  have h2 := h.sum
  grind⟩
theorem dx_sum {V : Ves} {n : Nat} {w : Nat → Int} {x : Nat → Rat} {s : Stp} (hs : s.ok n) : sumN n (dx V w x s) + dl V w x s = sumN n x := by
  cases s with
  | fill a z => simp only [dx, dl]; grind
  | tip a =>
    have ha : a < n := hs
    simp only [dx, dl]
    rw [sumN_up, if_pos ha]; grind
  | pour a b z =>
    obtain ⟨ha, hb, hab, hz⟩ := hs
    simp only [dx, dl]
    rw [sumN_up, if_pos hb, sumN_up, if_pos ha]
    have : up x a (x a - x a * pt V w (.pour a b z)) b = x b := by simp only [up]; rw [if_neg (fun e => hab e.symm)]
    rw [this]; grind
theorem dx_dr {D M n : Nat} {V : Ves} {w : Nat → Int} {x : Nat → Rat} {s : Stp} (hV : ∀ i, i < n → VOk V i) (hw : WOk V n w) (hs : s.ok n) (h : Dr D M n x) : Dr (D * wf w s) M n (dx V w x s) ∧ Rd (D * wf w s) M (dl V w x s) := by
  have hp := pt_rd hV hw hs
  have hi : (pt V w s) ≤ 1 := by have := hp.hi; simpa using this
  have gone : ∀ a, a < n → Iz (D * wf w s) (x a * pt V w s) ∧ 0 ≤ x a * pt V w s ∧ x a * pt V w s ≤ x a := fun a ha => ⟨(h.iz a ha).mul hp.iz, Rat.mul_nonneg (h.lo a ha) hp.lo, mul_le_self (h.lo a ha) hi⟩
  have mor : ∀ i, i < n → Iz (D * wf w s) (x i) := fun i hi => (h.iz i hi).more _
  have hsum := dx_sum (V := V) (w := w) (x := x) hs
  have hM := h.sum
  cases s with
  | fill a z => exact ⟨⟨mor, h.lo, h.sum⟩, .zero _, Rat.le_refl, by
      have : (0 : Rat) ≤ ((M : Nat) : Rat) := by exact_mod_cast Nat.zero_le M
      exact this⟩
  | tip a =>
    have ha : a < n := hs
    obtain ⟨g1, g2, g3⟩ := gone a ha
    have lo2 : ∀ i, i < n → 0 ≤ dx V w x (.tip a) i := fun i hi => by
      simp only [dx, up]
      by_cases c : i = a
      · rw [if_pos c]; grind
      · rw [if_neg c]; exact h.lo i hi
    have s0 := sumN_nn lo2
    refine ⟨⟨fun i hi => ?_, lo2, ?_⟩, g1, g2, ?_⟩
    · simp only [dx, up]
      by_cases c : i = a
      · rw [if_pos c]; exact (mor a ha).sub g1
      · rw [if_neg c]; exact mor i hi
    · simp only [dl] at hsum; grind
    · simp only [dl] at hsum ⊢; grind
  | pour a b z =>
    obtain ⟨ha, hb, hab, hz⟩ := hs
    obtain ⟨g1, g2, g3⟩ := gone a ha
    have lo2 : ∀ i, i < n → 0 ≤ dx V w x (.pour a b z) i := fun i hi => by
      simp only [dx, up]
      by_cases c : i = b
      · rw [if_pos c]; have := h.lo b hb; grind
      · rw [if_neg c]
        by_cases c2 : i = a
        · rw [if_pos c2]; grind
        · rw [if_neg c2]; exact h.lo i hi
    refine ⟨⟨fun i hi => ?_, lo2, ?_⟩, .zero _, Rat.le_refl, by
      have : (0 : Rat) ≤ ((M : Nat) : Rat) := by exact_mod_cast Nat.zero_le M
      exact this⟩
    · simp only [dx, up]
      by_cases c : i = b
      · rw [if_pos c]; exact (mor b hb).add g1
      · rw [if_neg c]
        by_cases c2 : i = a
        · rw [if_pos c2]; exact (mor a ha).sub g1
        · rw [if_neg c2]; exact mor i hi
    · simp only [dl] at hsum; grind
end Rz
/-! RzM11 -/
set_option linter.all false
set_option maxRecDepth 100000
set_option exponentiation.threshold 20000
namespace Rz
theorem T_dirt_behind : TT i_dirt_behind = some d_dirt_behind := rfl
theorem T_round_of : TT i_round_of = some d_round_of := rfl
theorem T_table_of : TT i_table_of = some d_table_of := rfl
theorem T_law_done : TT i_law_done = some d_law_done := rfl
theorem T_law_rows : TT i_law_rows = some d_law_rows := rfl
theorem small_B2 {x : Nat} (h : x ≤ 1000000) : x < B2 := by
  rw [B2_eq]
  exact Nat.lt_of_le_of_lt h (Nat.lt_of_lt_of_le (by decide : 1000000 < 2 ^ 20) (Nat.pow_le_pow_right (by decide) (by decide)))
theorem small_BB {x : Nat} (h : x ≤ 2 ^ 6000) : x < BB := by
  rw [BB_eq]
  exact Nat.lt_of_le_of_lt h (Nat.pow_lt_pow_right (by decide) (by decide))
theorem row_up (n : Nat) (x : Nat → Rat) (a : Nat) (v : Rat) : tf n (up (fun i => fr (x i)) a (fr v)) = row n (up x a v) := by
  unfold row tf
  congr 1
  apply List.map_congr_left
  intro i _
  by_cases h : i = a <;> simp [up, h]
theorem lrow_up (n : Nat) (x : Nat → Rat) (a : Nat) (v : Rat) : lf n (up (fun i => fr (x i)) a (fr v)) = lf n fun i => fr (up x a v i) := by
  unfold lf
  congr 1
  apply List.map_congr_left
  intro i _
  by_cases h : i = a <;> simp [up, h]
theorem wp_row (k n a : Nat) (x : Nat → Rat) (v : Rat) (g : Gs) (ha : a < n) (hn : n ≤ 1000) : evF TT (k + 1) i_with_part [row n x, .int (a : Int), fr v] g = .ok (row n (up x a v)) g := by
  rw [← row_up]; exact ev_with_part k n a (fun i => fr (x i)) (fr v) g ha hn
theorem ixr {n i : Nat} {x : Nat → Rat} (h : i < n) (g : Gs) : ixD g (row n x) (.int (i : Int)) = some (fr (x i)) := ix_tf h
/-- what one step asks -/
structure StA (D M n : Nat) (V : Ves) (w : Nat → Int) (x : Nat → Rat) (s : Stp) : Prop where
  n3 : n ≤ 1000
  vok : ∀ i, i < n → VOk V i
  wok : WOk V n w
  sok : s.ok n
  dr : Dr D M n x
  D0 : 0 < D
  M0 : 0 < M
  big : M * (D * wf w s) < BB
section
variable {D M n : Nat} {V : Ves} {w : Nat → Int} {x : Nat → Rat} {s : Stp}
theorem StA.big1 (h : StA D M n V w x s) : M * D < BB := by
  have := (wf_pos h.vok h.wok h.sok).1
  have h1 : M * D ≤ M * (D * wf w s) := Nat.mul_le_mul_left M (Nat.le_mul_of_pos_right D this)
  have := h.big
  omega
theorem StA.smx (h : StA D M n V w x s) {i : Nat} (hi : i < n) : Sm (x i) := (h.dr.rd hi).sm h.D0 h.M0 h.big1
theorem StA.smp (h : StA D M n V w x s) : Sm (pt V w s) := (pt_rd h.vok h.wok h.sok).sm (wf_pos h.vok h.wok h.sok).1 (by decide) (by
  have := (wf_pos h.vok h.wok h.sok).2
  exact small_BB (Nat.le_trans (by omega : 1 * wf w s ≤ 2 ^ 4) (Nat.pow_le_pow_right (by decide) (by decide))))
theorem StA.smg (h : StA D M n V w x s) {a : Nat} (ha : a < n) : Sm (x a * pt V w s) := by
  have hp := pt_rd h.vok h.wok h.sok
  have hi : (pt V w s) ≤ 1 := by have := hp.hi; simpa using this
  have r := h.dr.rd ha
  have : Rd (D * wf w s) M (x a * pt V w s) := ⟨r.iz.mul hp.iz, Rat.mul_nonneg r.lo hp.lo, by
    have := mul_le_self r.lo hi
    have := r.hi
    grind⟩
  exact this.sm (Nat.mul_pos h.D0 (wf_pos h.vok h.wok h.sok).1) h.M0 h.big
theorem low_pt (k : Nat) (m b : Int) (g : Gs) (hb : 0 < b) (h1 : m.natAbs ≤ 1000000) (h2 : b.natAbs ≤ 1000000) : evF TT (k + 2) i_lowest [.int m, .int b] g = .ok (fr ((m : Rat) / (b : Rat))) g := by
  rw [ev_lowest k m b g (by omega) (small_B2 h1) (small_B2 h2), Rat.divInt_eq_div]
theorem law_low_pt (k : Nat) (m b : Int) (g : Gs) (hb : 0 < b) (h1 : m.natAbs ≤ 1000000) (h2 : b.natAbs ≤ 1000000) : evF TT (k + 1) i_law_low [.int m, .int b] g = .ok (fr ((m : Rat) / (b : Rat))) g := by
  rw [ev_law_low k m b g (by omega) (small_B2 h1) (small_B2 h2), Rat.divInt_eq_div]
theorem ev_dirt (k : Nat) (g : Gs) (h : StA D M n V w x s) : evF TT (k + 4) i_dirt_behind [vsD n V, wD n w, row n x, encS s] g = .ok (.tup [row n (dx V w x s), fr (dl V w x s)]) g := by
  rw [evF_s T_dirt_behind, runF_eq rfl]
  show outR (evSs (evF TT (k + 3)) b_dirt_behind [.p (vsD n V), .p (wD n w), .p (row n x), .p (encS s), .u, .u] g) = _
  have m := ev_moved (k + 2) n V w s g h.sok
  have hn := h.n3
  have fz : Rz.D.tup [.int 0, .int 1] = fr 0 := rfl
  cases s with
  | fill a z => simp [b_dirt_behind, encS, dx, dl, fz]
  | tip a =>
    have ha : a < n := h.sok
    have := h.wok.lo a ha; have := h.wok.hi a ha; have := (h.vok a ha).f1; have := (h.vok a ha).r2
    have l := low_pt (k + 1) (mv V w (.tip a)) (w a) g (by omega) (by simp only [mv]; omega) (by omega)
    have t := ev_times k (x a) (pt V w (.tip a)) g (h.smx ha) h.smp
    have u := ev_minus k (x a) (x a * pt V w (.tip a)) g (h.smx ha) (h.smg ha)
    have p := wp_row (k + 2) n a x (x a - x a * pt V w (.tip a)) g ha hn
    simp only [encS, pt] at m l t u p
    simp [b_dirt_behind, encS, ixw ha, ixr ha, m, l, t, u, p, dx, dl, pt]
  | pour a b z =>
    obtain ⟨ha, hb, hab, hz⟩ := h.sok
    have := h.wok.lo a ha; have := h.wok.hi a ha; have := (h.vok a ha).f1; have := (h.vok a ha).r2
    have := h.wok.lo b hb; have := h.wok.hi b hb; have := (h.vok b hb).f1; have := (h.vok b hb).r2
    have l := low_pt (k + 1) (mv V w (.pour a b z)) (w a) g (by omega) (by simp only [mv]; omega) (by omega)
    have t := ev_times k (x a) (pt V w (.pour a b z)) g (h.smx ha) h.smp
    have u := ev_minus k (x a) (x a * pt V w (.pour a b z)) g (h.smx ha) (h.smg ha)
    have v := ev_plus k (x b) (x a * pt V w (.pour a b z)) g (h.smx hb) (h.smg ha)
    have p := wp_row (k + 2) n a x (x a - x a * pt V w (.pour a b z)) g ha hn
    have q := wp_row (k + 2) n b (up x a (x a - x a * pt V w (.pour a b z))) (x b + x a * pt V w (.pour a b z)) g hb hn
    simp only [encS, pt] at m l t u p v q
    simp [b_dirt_behind, encS, ixw ha, ixr ha, ixr hb, m, l, t, u, v, p, q, dx, dl, pt, fz]
end
/-! ### steps on -/
def dxs (V : Ves) (w : Nat → Int) (x : Nat → Rat) : List Stp → Nat → Rat
  | [] => x
  | s :: ss => dxs V (wn V w s) (dx V w x s) ss
def dls (V : Ves) (w : Nat → Int) (x : Nat → Rat) (t : Rat) : List Stp → Rat
  | [] => t
  | s :: ss => dls V (wn V w s) (dx V w x s) (t + dl V w x s) ss
def wps (V : Ves) (w : Nat → Int) : List Stp → Nat
  | [] => 1
  | s :: ss => wf w s * wps V (wn V w s) ss
theorem dxs_app (V : Ves) : ∀ (ss ts : List Stp) (w : Nat → Int) (x : Nat → Rat), dxs V w x (ss ++ ts) = dxs V (wat V w ss) (dxs V w x ss) ts
  | [], ts, w, x => rfl
  | s :: ss, ts, w, x => dxs_app V ss ts (wn V w s) (dx V w x s)
theorem dls_app (V : Ves) : ∀ (ss ts : List Stp) (w : Nat → Int) (x : Nat → Rat) (t : Rat), dls V w x t (ss ++ ts) = dls V (wat V w ss) (dxs V w x ss) (dls V w x t ss) ts
  | [], ts, w, x, t => rfl
  | s :: ss, ts, w, x, t => dls_app V ss ts (wn V w s) (dx V w x s) (t + dl V w x s)
theorem wps_le {V : Ves} {n : Nat} (hV : ∀ i, i < n → VOk V i) : ∀ (ss : List Stp) (w : Nat → Int), WOk V n w → (∀ s ∈ ss, s.ok n) → 0 < wps V w ss ∧ wps V w ss ≤ 12 ^ ss.length
  | [], w, _, _ => by simp [wps]
  | s :: ss, w, h, hs => by
    have h1 := wf_pos hV h (hs s (List.mem_cons_self ..))
    have h2 := wps_le hV ss (wn V w s) (wn_ok hV h (hs s (List.mem_cons_self ..))) fun t ht => hs t (List.mem_cons_of_mem _ ht)
    refine ⟨Nat.mul_pos h1.1 h2.1, ?_⟩
    rw [List.length_cons, Nat.pow_succ, Nat.mul_comm (12 ^ ss.length)]
    exact Nat.mul_le_mul h1.2 h2.2
theorem dxs_dr {V : Ves} {n M : Nat} (hV : ∀ i, i < n → VOk V i) : ∀ (ss : List Stp) (w : Nat → Int) (x : Nat → Rat) (D : Nat), WOk V n w → (∀ s ∈ ss, s.ok n) → Dr D M n x → Dr (D * wps V w ss) M n (dxs V w x ss)
  | [], w, x, D, _, _, h => by simpa [wps, dxs] using h
  | s :: ss, w, x, D, hw, hs, h => by
    have h1 := (dx_dr hV hw (hs s (List.mem_cons_self ..)) h).1
    have h2 := dxs_dr hV ss (wn V w s) (dx V w x s) _ (wn_ok hV hw (hs s (List.mem_cons_self ..))) (fun t ht => hs t (List.mem_cons_of_mem _ ht)) h1
    show Dr (D * (wf w s * wps V (wn V w s) ss)) M n _
    rw [← Nat.mul_assoc]; exact h2
theorem dxs_sum {V : Ves} {n : Nat} : ∀ (ss : List Stp) (w : Nat → Int) (x : Nat → Rat) (t : Rat), (∀ s ∈ ss, s.ok n) → sumN n (dxs V w x ss) + dls V w x t ss = sumN n x + t
  | [], w, x, t, _ => rfl
  | s :: ss, w, x, t, hs => by
    have h1 := dx_sum (V := V) (w := w) (x := x) (hs s (List.mem_cons_self ..))
    have h2 := dxs_sum (V := V) ss (wn V w s) (dx V w x s) (t + dl V w x s) fun t ht => hs t (List.mem_cons_of_mem _ ht)
    show sumN n (dxs V (wn V w s) (dx V w x s) ss) + dls V (wn V w s) (dx V w x s) (t + dl V w x s) ss = _
    rw [h2, ← h1]; grind
/-- what a run asks -/
structure RnA (D M n : Nat) (V : Ves) (w : Nat → Int) (x : Nat → Rat) (ss : List Stp) : Prop where
  n3 : n ≤ 1000
  vok : ∀ i, i < n → VOk V i
  wok : WOk V n w
  sok : ∀ s ∈ ss, s.ok n
  dr : Dr D M n x
  D0 : 0 < D
  M0 : 0 < M
  big : M * (D * 12 ^ ss.length) < BB
theorem RnA.at_ {D M n : Nat} {V : Ves} {w : Nat → Int} {x : Nat → Rat} {ss pre : List Stp} {s : Stp} (h : RnA D M n V w x ss) (hp : ∀ t ∈ pre, t.ok n) (hs : s ∈ ss) (hl : pre.length < ss.length) : StA (D * wps V w pre) M n V (wat V w pre) (dxs V w x pre) s := by
  have w1 := wat_ok h.vok pre h.wok hp
  have w2 := wps_le h.vok pre w h.wok hp
  have w3 := wf_pos h.vok w1 (h.sok s hs)
  refine ⟨h.n3, h.vok, w1, h.sok s hs, dxs_dr h.vok pre w x D h.wok hp h.dr, Nat.mul_pos h.D0 w2.1, h.M0, ?_⟩
  have b : wps V w pre * wf (wat V w pre) s ≤ 12 ^ ss.length := by
    have c1 : wps V w pre * wf (wat V w pre) s ≤ 12 ^ pre.length * 12 := Nat.mul_le_mul w2.2 w3.2
    have c2 : 12 ^ pre.length * 12 ≤ 12 ^ ss.length := by rw [← Nat.pow_succ]; exact Nat.pow_le_pow_right (by decide) (by omega)
    exact Nat.le_trans c1 c2
  have c : M * (D * wps V w pre * wf (wat V w pre) s) ≤ M * (D * 12 ^ ss.length) := by
    rw [Nat.mul_assoc]
    exact Nat.mul_le_mul_left M (Nat.mul_le_mul_left D b)
  have := h.big
  omega
theorem ev_round (k n D M : Nat) (V : Ves) (x : Nat → Rat) (ss : List Stp) (g : Gs) (h : RnA D M n V V.beg x ss) : evF TT (k + 5) i_round_of [wayD n V ss, row n x] g = .ok (row n (dxs V V.beg x ss)) g := by
  rw [evF_s T_round_of, runF_eq rfl]
  show outR (evSs (evF TT (k + 4)) b_round_of [.p (wayD n V ss), .p (row n x), .u, .u, .u, .u, .u] g) = _
  have hb := ev_begins (k + 3) n V g h.n3
  obtain ⟨env', g', f1, hg, hp, y5, y6, he⟩ := forL_l (t := .nm 5) (enc := encS) (b := bodyOf (evF TT (k + 4)) [.unp (.tp [(.nm 1), (.nm 6)]) (.call i_dirt_behind [.var 2, .var 4, .var 1, .var 5]), .asg 4 (.call i_waters_behind [.var 2, .var 4, .var 5])])
    (env := [.p (wayD n V ss), .p (row n x), .p (vsD n V), .p (ssD ss), .p (wD n V.beg), .u, .u]) (g := g)
    (fun pre e g' => g' = g ∧ (∀ t ∈ pre, t.ok n) ∧ ∃ y5 y6, e = [.p (wayD n V ss), .p (row n (dxs V V.beg x pre)), .p (vsD n V), .p (ssD ss), .p (wD n (wat V V.beg pre)), y5, y6]) ss (fun pre s e g' hm hlt ⟨hg, hp, y5, y6, he⟩ => by
      subst he hg
      have st := h.at_ hp hm hlt
      have q := ev_dirt k g' st
      have w := ev_waters (k + 2) n V (wat V V.beg pre) s g' (h.sok s hm) h.n3
      refine ⟨[.p (wayD n V ss), .p (row n (dxs V V.beg x pre)), .p (vsD n V), .p (ssD ss), .p (wD n (wat V V.beg pre)), .p (encS s), y6], rfl, [.p (wayD n V ss), .p (row n (dxs V V.beg x (pre ++ [s]))), .p (vsD n V), .p (ssD ss), .p (wD n (wat V V.beg (pre ++ [s]))), .p (encS s), .p (fr (dl V (wat V V.beg pre) (dxs V V.beg x pre) s))], g', .inl ?_, rfl, fun t ht => (List.mem_append.mp ht).elim (hp t) fun z => by rw [List.mem_singleton.mp z]; exact h.sok s hm, _, _, rfl⟩
      rw [bodyOf_eq, wat_snoc, dxs_app]
      simp [q, w, dxs]) ⟨rfl, fun t ht => (List.not_mem_nil ht).elim, .u, .u, rfl⟩
  subst he hg
  have hi : items .seq [ssD ss] = some (ss.map encS) := rfl
  simp only [wayD] at f1
  simp [b_round_of, wayD, hb, hi, f1]
end Rz
/-! RzM12 -/
set_option linter.all false
set_option maxRecDepth 100000
set_option exponentiation.threshold 20000
namespace Rz
theorem sumN_id (n i : Nat) : sumN n (idN i) = if i < n then 1 else 0 := by
  induction n with
  | zero => simp [sumN]
  | succ n ih =>
    rw [sumN, ih]
    by_cases h : i < n
    · rw [if_pos h, if_pos (by omega)]
      have : idN i n = 0 := by simp only [idN]; rw [if_neg (by omega)]
      rw [this]; grind
    · by_cases h2 : i = n
      · subst h2
        rw [if_neg h, if_pos (by omega)]
        have : idN i i = 1 := by simp [idN]
        rw [this]; grind
      · rw [if_neg h, if_neg (by omega)]
        have : idN i n = 0 := by simp only [idN]; rw [if_neg h2]
        rw [this]; grind
theorem id_dr (n i : Nat) : Dr 1 1 n (idN i) := by
  refine ⟨fun j hj => ?_, fun j hj => ?_, ?_⟩
  · unfold idN
    by_cases h : i = j
    · rw [if_pos h]; exact Iz.int 1 1
    · rw [if_neg h]; exact .zero 1
  · unfold idN
    by_cases h : i = j
    · rw [if_pos h]; decide
    · rw [if_neg h]; decide
  · rw [sumN_id]
    by_cases h : i < n
    · rw [if_pos h]; decide
    · rw [if_neg h]; decide
def Tb (V : Ves) (ss : List Stp) : Nat → Nat → Rat := fun i => dxs V V.beg (idN i) ss
theorem unit_rn {n : Nat} {V : Ves} {ss : List Stp} (h : WayOk n V ss) (i : Nat) : RnA 1 1 n V V.beg (idN i) ss :=
  ⟨by have := h.n3; omega, h.vok, beg_ok h.vok, h.sok, id_dr n i, by decide, by decide, by
    have : 12 ^ ss.length ≤ 12 ^ 8 := Nat.pow_le_pow_right (by decide) h.s8
    exact small_BB (Nat.le_trans (by omega : 1 * (1 * 12 ^ ss.length) ≤ 12 ^ 8) (Nat.le_trans (by decide : 12 ^ 8 ≤ 2 ^ 32) (Nat.pow_le_pow_right (by decide) (by decide))))⟩
theorem ev_table (k n : Nat) (V : Ves) (ss : List Stp) (g : Gs) (h : WayOk n V ss) : evF TT (k + 6) i_table_of [wayD n V ss] g = .ok (tab n n (Tb V ss)) g := by
  rw [evF_s T_table_of, runF_eq rfl]
  show outR (evSs (evF TT (k + 5)) b_table_of [.p (wayD n V ss), .u] g) = _
  have n3 := h.n3
  have x0 : ∀ g, ixD g (wayD n V ss) (.int 0) = some (vsD n V) := fun g => ix_t0 g _ _
  have hln : bi .len [vsD n V] = some (.int (n : Int)) := len_tf _ _
  have hid := ev_idle (k + 4) n g (by omega)
  have i1 : items .seq [tab n n idN] = some ((List.range n).map fun i => row n (idN i)) := items_seq (sq_tf _ _)
  have c : compD (evF TT (k + 5)) (.call i_round_of [.var 0, .var 1]) (.nm 1) [] [.p (wayD n V ss), .u] g (some ((List.range n).map fun i => row n (idN i))) = .ok (lf n fun i => row n (Tb V ss i)) g :=
    compD_n (fun i => row n (Tb V ss i)) (by omega) fun i hi => ⟨[.p (wayD n V ss), .p (row n (idN i))], rfl, by simp [ev_round k n 1 1 V (idN i) ss g (unit_rn h i), Tb]⟩
  have ht : bi .tuple [lf n fun i => row n (Tb V ss i)] = some (tab n n (Tb V ss)) := tuple_lf _ _
  simp [b_table_of, x0, hln, hid, i1, c, ht]
/-! ### the law's own run -/
def rep (t : Nat) (ss : List Stp) : List Stp := (List.replicate t ss).flatten
theorem ssD_mul (t : Nat) (ss : List Stp) (h : ss.length * t ≤ 1000000) (ht : t ≤ 1000000) : op2 .mul (ssD ss) (.int (t : Int)) = some (ssD (rep t ss)) := by
  unfold ssD
  have e0 : op2 .mul (.tup (ss.map encS)) (.int (t : Int)) = (if (shortI (t : Int) && Nat.ble ((ss.map encS).length * (t : Int).toNat) lineN) = true then some (D.tup (List.replicate (t : Int).toNat (ss.map encS)).flatten) else none) := rfl
  rw [e0]
  have e1 : shortI (t : Int) = true := by unfold shortI; rw [Bool.and_eq_true]; exact ⟨decide_eq_true (by omega), decide_eq_true (by omega)⟩
  have e2 : Nat.ble ((ss.map encS).length * (t : Int).toNat) lineN = true := Nat.ble_eq_true_of_le (by simpa [lineN] using h)
  have e3 : (t : Int).toNat = t := Int.toNat_natCast t
  rw [if_pos (by rw [e1, e2]; rfl), e3]
  have e4 : (rep t ss).map encS = (List.replicate t (ss.map encS)).flatten := by
    unfold rep
    rw [List.map_flatten, List.map_replicate]
  rw [e4]
theorem dls_t (V : Ves) : ∀ (ss : List Stp) (w : Nat → Int) (x : Nat → Rat) (t : Rat), dls V w x t ss = t + dls V w x 0 ss
  | [], w, x, t => by show t = t + 0; grind
  | s :: ss, w, x, t => by
    show dls V (wn V w s) (dx V w x s) (t + dl V w x s) ss = t + dls V (wn V w s) (dx V w x s) (0 + dl V w x s) ss
    rw [dls_t V ss _ _ (t + dl V w x s), dls_t V ss _ _ (0 + dl V w x s)]; grind
theorem dls_nn {V : Ves} {n M : Nat} (hV : ∀ i, i < n → VOk V i) : ∀ (ss : List Stp) (w : Nat → Int) (x : Nat → Rat) (D : Nat), WOk V n w → (∀ s ∈ ss, s.ok n) → Dr D M n x → 0 ≤ dls V w x 0 ss
  | [], w, x, D, _, _, _ => Rat.le_refl
  | s :: ss, w, x, D, hw, hs, h => by
    have h1 := dx_dr hV hw (hs s (List.mem_cons_self ..)) h
    have h2 := dls_nn hV ss (wn V w s) (dx V w x s) _ (wn_ok hV hw (hs s (List.mem_cons_self ..))) (fun t ht => hs t (List.mem_cons_of_mem _ ht)) h1.1
    show 0 ≤ dls V (wn V w s) (dx V w x s) (0 + dl V w x s) ss
    rw [dls_t]
    have := h1.2.lo
    grind
theorem dls_rd {V : Ves} {n M D : Nat} {w : Nat → Int} {x : Nat → Rat} {ss : List Stp} (hV : ∀ i, i < n → VOk V i) (hw : WOk V n w) (hs : ∀ s ∈ ss, s.ok n) (h : Dr D M n x) : Rd (D * wps V w ss) M (dls V w x 0 ss) := by
  have e := dxs_sum (V := V) (n := n) ss w x 0 hs
  have d := dxs_dr hV ss w x D hw hs h
  have nn := dls_nn hV ss w x D hw hs h
  have sn := sumN_nn d.lo
  have e2 : dls V w x 0 ss = sumN n x - sumN n (dxs V w x ss) := by grind
  refine ⟨?_, nn, ?_⟩
  · rw [e2]
    exact (sumN_iz fun i hi => (h.iz i hi).more _).sub (sumN_iz d.iz)
  · have := h.sum; grind
theorem RnA.smt {D M n : Nat} {V : Ves} {w : Nat → Int} {x : Nat → Rat} {ss pre : List Stp} (h : RnA D M n V w x ss) (hp : ∀ t ∈ pre, t.ok n) (hl : pre.length ≤ ss.length) : Sm (dls V w x 0 pre) := by
  have w2 := wps_le h.vok pre w h.wok hp
  refine (dls_rd h.vok h.wok hp h.dr).sm (Nat.mul_pos h.D0 w2.1) h.M0 ?_
  have c1 : wps V w pre ≤ 12 ^ ss.length := Nat.le_trans w2.2 (Nat.pow_le_pow_right (by decide) hl)
  have c2 : M * (D * wps V w pre) ≤ M * (D * 12 ^ ss.length) := Nat.mul_le_mul_left M (Nat.mul_le_mul_left D c1)
  have := h.big
  omega
theorem setx_lr {C : Nat → List D → Gs → R D} {env : Env} {g : Gs} {i n a : Nat} {j e : Ex} {v : Rat} {x : Nat → Rat} (h1 : evE C e env g = .ok (fr v) g) (hs : getS env i = .o (lf n fun i => fr (x i))) (h2 : evE C j env g = .ok (.int (a : Int)) g) (ha : a < n) :
    evS C (.setx i j e) env g = .nx (setS env i (.o (lf n fun i => fr (up x a v i)))) g := by
  rw [setx_lf h1 hs h2 ha, lrow_up]
def bodyDone : List St := [.unp (.tp [(.nm 8), (.nm 9)]) (.call i_law_flow [.var 3, .var 5, .var 7]),
    .ite (.op .ne (.ix (.var 7) (.lit (.int 0))) (.lit (.str [102, 105, 108, 108]))) [.asg 10 (.call i_law_mul [.ix (.var 1) (.ix (.var 7) (.lit (.int 1))),
    .call i_law_low [.var 8, .ix (.var 5) (.ix (.var 7) (.lit (.int 1)))]]), .own 11 (.bi .list [.var 1]),
    .setx 11 (.ix (.var 7) (.lit (.int 1))) (.call i_law_sub [.ix (.var 1) (.ix (.var 7) (.lit (.int 1))), .var 10]),
    .ite (.op .eq (.ix (.var 7) (.lit (.int 0))) (.lit (.str [112, 111, 117,
    114]))) [.setx 11 (.ix (.var 7) (.lit (.int 2))) (.call i_law_add [.ix (.var 1) (.ix (.var 7) (.lit (.int 2))), .var 10])] [.asg 6 (.call i_law_add [.var 6,
    .var 10])], .frz [11], .asg 1 (.bi .tuple [.var 11])] [], .asg 5 (.var 9)]
theorem done_step (k : Nat) {D M n : Nat} {V : Ves} {w : Nat → Int} {x : Nat → Rat} {s : Stp} {t : Rat} (g : Gs) (h : StA D M n V w x s) (ht : Sm t) (a0 a2 a3 a4 y8 y9 y10 y11 : Sl) (h3 : a3 = .p (vsD n V)) :
    ∃ z8 z9 z10 z11, evSs (evF TT (k + 2)) bodyDone [a0, .p (row n x), a2, a3, a4, .p (wD n w), .p (fr t), .p (encS s), y8, y9, y10, y11] g = .nx [a0, .p (row n (dx V w x s)), a2, a3, a4, .p (wD n (wn V w s)), .p (fr (t + dl V w x s)), .p (encS s), z8, z9, z10, z11] g := by
  subst h3
  have f := ev_law_flow (k + 1) n V w s g h.sok h.n3
  have hl : bi .list [row n x] = some (lf n fun i => fr (x i)) := list_tf _ _
  have htp : ∀ x : Nat → Rat, bi .tuple [lf n fun i => fr (x i)] = some (row n x) := fun x => tuple_lf _ _
  cases s with
  | fill a z =>
    refine ⟨.p (.int (mv V w (.fill a z))), .p (wD n (wn V w (.fill a z))), y10, y11, ?_⟩
    · simp only [encS] at f
      have : t + 0 = t := by grind
      simp [bodyDone, encS, f, dx, dl, this]
  | tip a =>
    have ha : a < n := h.sok
    have := h.wok.lo a ha; have := h.wok.hi a ha; have := (h.vok a ha).f1; have := (h.vok a ha).r2
    have l := law_low_pt (k + 1) (mv V w (.tip a)) (w a) g (by omega) (by simp only [mv]; omega) (by omega)
    have m := ev_law_mul k (x a) (pt V w (.tip a)) g (h.smx ha) h.smp
    have u := ev_law_sub k (x a) (x a * pt V w (.tip a)) g (h.smx ha) (h.smg ha)
    have v := ev_law_add k t (x a * pt V w (.tip a)) g ht (h.smg ha)
    have e : evS (evF TT (k + 2)) (.setx 11 (.ix (.var 7) (.lit (.int 1))) (.call i_law_sub [.ix (.var 1) (.ix (.var 7) (.lit (.int 1))), .var 10])) [a0, .p (row n x), a2, .p (vsD n V), a4, .p (wD n w), .p (fr t), .p (encS (.tip a)), .p (.int (mv V w (.tip a))), .p (wD n (wn V w (.tip a))), .p (fr (x a * pt V w (.tip a))), .o (lf n fun i => fr (x i))] g = .nx [a0, .p (row n x), a2, .p (vsD n V), a4, .p (wD n w), .p (fr t), .p (encS (.tip a)), .p (.int (mv V w (.tip a))), .p (wD n (wn V w (.tip a))), .p (fr (x a * pt V w (.tip a))), .o (lf n fun i => fr (dx V w x (.tip a) i))] g := by
      rw [setx_lr (v := x a - x a * pt V w (.tip a)) (by simp [encS, ixr ha, u]) rfl (by simp [encS]) ha]; rfl
    simp only [encS, pt] at f l m u v e
    refine ⟨.p (.int (mv V w (.tip a))), .p (wD n (wn V w (.tip a))), .p (fr (x a * pt V w (.tip a))), .p (lf n fun i => fr (dx V w x (.tip a) i)), ?_⟩
    · simp [bodyDone, encS, f, ixw ha, ixr ha, l, m, hl, e, v, htp, dl, pt]
  | pour a b z =>
    obtain ⟨ha, hb, hab, hz⟩ := h.sok
    have := h.wok.lo a ha; have := h.wok.hi a ha; have := (h.vok a ha).f1; have := (h.vok a ha).r2
    have := h.wok.lo b hb; have := h.wok.hi b hb; have := (h.vok b hb).f1; have := (h.vok b hb).r2
    have l := law_low_pt (k + 1) (mv V w (.pour a b z)) (w a) g (by omega) (by simp only [mv]; omega) (by omega)
    have m := ev_law_mul k (x a) (pt V w (.pour a b z)) g (h.smx ha) h.smp
    have u := ev_law_sub k (x a) (x a * pt V w (.pour a b z)) g (h.smx ha) (h.smg ha)
    have v := ev_law_add k (x b) (x a * pt V w (.pour a b z)) g (h.smx hb) (h.smg ha)
    have e : evS (evF TT (k + 2)) (.setx 11 (.ix (.var 7) (.lit (.int 1))) (.call i_law_sub [.ix (.var 1) (.ix (.var 7) (.lit (.int 1))), .var 10])) [a0, .p (row n x), a2, .p (vsD n V), a4, .p (wD n w), .p (fr t), .p (encS (.pour a b z)), .p (.int (mv V w (.pour a b z))), .p (wD n (wn V w (.pour a b z))), .p (fr (x a * pt V w (.pour a b z))), .o (lf n fun i => fr (x i))] g = .nx [a0, .p (row n x), a2, .p (vsD n V), a4, .p (wD n w), .p (fr t), .p (encS (.pour a b z)), .p (.int (mv V w (.pour a b z))), .p (wD n (wn V w (.pour a b z))), .p (fr (x a * pt V w (.pour a b z))), .o (lf n fun i => fr (up x a (x a - x a * pt V w (.pour a b z)) i))] g := by
      rw [setx_lr (v := x a - x a * pt V w (.pour a b z)) (by simp [encS, ixr ha, u]) rfl (by simp [encS]) ha]; rfl
    have e2 : evS (evF TT (k + 2)) (.setx 11 (.ix (.var 7) (.lit (.int 2))) (.call i_law_add [.ix (.var 1) (.ix (.var 7) (.lit (.int 2))), .var 10])) [a0, .p (row n x), a2, .p (vsD n V), a4, .p (wD n w), .p (fr t), .p (encS (.pour a b z)), .p (.int (mv V w (.pour a b z))), .p (wD n (wn V w (.pour a b z))), .p (fr (x a * pt V w (.pour a b z))), .o (lf n fun i => fr (up x a (x a - x a * pt V w (.pour a b z)) i))] g = .nx [a0, .p (row n x), a2, .p (vsD n V), a4, .p (wD n w), .p (fr t), .p (encS (.pour a b z)), .p (.int (mv V w (.pour a b z))), .p (wD n (wn V w (.pour a b z))), .p (fr (x a * pt V w (.pour a b z))), .o (lf n fun i => fr (dx V w x (.pour a b z) i))] g := by
      rw [setx_lr (v := x b + x a * pt V w (.pour a b z)) (by simp [encS, ixr hb, v]) rfl (by simp [encS]) hb]; rfl
    simp only [encS, pt] at f l m u v e e2
    refine ⟨.p (.int (mv V w (.pour a b z))), .p (wD n (wn V w (.pour a b z))), .p (fr (x a * pt V w (.pour a b z))), .p (lf n fun i => fr (dx V w x (.pour a b z) i)), ?_⟩
    · have : t + 0 = t := by grind
      simp [bodyDone, encS, f, ixw ha, ixr ha, ixr hb, l, m, hl, e, e2, htp, dl, pt, this]
theorem ev_law_done (k n D M t : Nat) (V : Ves) (x : Nat → Rat) (ss : List Stp) (g : Gs) (h : RnA D M n V V.beg x (rep t ss)) (ht : ss.length * t ≤ 1000000) (ht2 : t ≤ 1000000) :
    evF TT (k + 3) i_law_done [wayD n V ss, row n x, .int (t : Int)] g = .ok (.tup [row n (dxs V V.beg x (rep t ss)), fr (dls V V.beg x 0 (rep t ss))]) g := by
  rw [evF_s T_law_done, runF_eq rfl]
  show outR (evSs (evF TT (k + 2)) b_law_done [.p (wayD n V ss), .p (row n x), .p (.int (t : Int)), .u, .u, .u, .u, .u, .u, .u, .u, .u] g) = _
  have hst := ev_law_start (k + 1) n V g h.n3
  obtain ⟨env', g', f1, hg, hp, y7, y8, y9, y10, y11, he⟩ := forL_l (t := .nm 7) (enc := encS) (b := bodyOf (evF TT (k + 2)) bodyDone)
    (env := [.p (wayD n V ss), .p (row n x), .p (.int (t : Int)), .p (vsD n V), .p (ssD ss), .p (wD n V.beg), .p (fr 0), .u, .u, .u, .u, .u]) (g := g)
    (fun pre e g' => g' = g ∧ (∀ t ∈ pre, t.ok n) ∧ ∃ y7 y8 y9 y10 y11, e = [.p (wayD n V ss), .p (row n (dxs V V.beg x pre)), .p (.int (t : Int)), .p (vsD n V), .p (ssD ss), .p (wD n (wat V V.beg pre)), .p (fr (dls V V.beg x 0 pre)), y7, y8, y9, y10, y11]) (rep t ss) (fun pre s e g' hm hlt ⟨hg, hp, y7, y8, y9, y10, y11, he⟩ => by
      subst he hg
      have st := h.at_ hp hm hlt
      obtain ⟨z8, z9, z10, z11, q⟩ := done_step k g' st (h.smt hp (by omega)) (.p (wayD n V ss)) (.p (.int (t : Int))) (.p (vsD n V)) (.p (ssD ss)) y8 y9 y10 y11 rfl
      refine ⟨_, rfl, _, g', .inl q, rfl, fun t ht => (List.mem_append.mp ht).elim (hp t) fun z => by rw [List.mem_singleton.mp z]; exact h.sok s hm, .p (encS s), z8, z9, z10, z11, ?_⟩
      rw [wat_snoc, dxs_app, dls_app]; rfl) ⟨rfl, fun t ht => (List.not_mem_nil ht).elim, .u, .u, .u, .u, .u, rfl⟩
  subst he hg
  have hi : items .seq [ssD (rep t ss)] = some ((rep t ss).map encS) := rfl
  have hm := ssD_mul t ss ht ht2
  have fz : Rz.D.tup [.int 0, .int 1] = fr 0 := rfl
  have hb : b_law_done = [.unp (.tp [(.nm 3), (.nm 4)]) (.var 0), .par [(false, 5), (false, 6)] [.call i_law_start [.var 3], .tup [.lit (.int 0), .lit (.int 1)]], .for_ (.nm 7) .seq [.op .mul (.var 4) (.var 2)] bodyDone, .ret (.tup [.var 1, .var 6])] := rfl
  rw [hb]
  simp only [wayD] at f1
  simp [wayD, hst, hm, hi, fz, f1]
end Rz
/-! RzM13 -/
set_option linter.all false
set_option maxRecDepth 100000
set_option exponentiation.threshold 20000
namespace Rz
theorem rep_one (ss : List Stp) : rep 1 ss = ss := by unfold rep; simp
theorem ev_law_rows (k n : Nat) (V : Ves) (ss : List Stp) (g : Gs) (h : WayOk n V ss) : evF TT (k + 4) i_law_rows [wayD n V ss] g = .ok (tab n n (Tb V ss)) g := by
  rw [evF_s T_law_rows, runF_eq rfl]
  show outR (evSs (evF TT (k + 3)) b_law_rows [.p (wayD n V ss), .u, .u, .u, .u, .u] g) = _
  have n3 := h.n3
  have x0 : ∀ g, ixD g (wayD n V ss) (.int 0) = some (vsD n V) := fun g => ix_t0 g _ _
  have hln : bi .len [vsD n V] = some (.int (n : Int)) := len_tf _ _
  have hr := items_rng (n := n) (by omega)
  obtain ⟨env', g', f1, hg, y3, y4, y5, he⟩ := forL_n (t := .nm 3) (f := fun (i : Nat) => D.int (i : Int)) (b := bodyOf (evF TT (k + 3)) [.asg 4 (.bi .tuple [.comp (.tup [.bi .int [.op .eq (.var 5) (.var 3)], .lit (.int 1)]) (.nm 5) .rng [.var 1] []]),
    .asg 2 (.op .add (.var 2) (.tup [.ix (.call i_law_done [.var 0, .var 4, .lit (.int 1)]) (.lit (.int 0))]))]) (env := [.p (wayD n V ss), .p (.int (n : Int)), .p (.tup []), .u, .u, .u]) (g := g)
    (fun i e g' => g' = g ∧ ∃ y3 y4 y5, e = [.p (wayD n V ss), .p (.int (n : Int)), .p (tab i n (Tb V ss)), y3, y4, y5]) n (fun i e g' hi ⟨hg, y3, y4, y5, he⟩ => by
      subst he hg
      have c : compD (evF TT (k + 3)) (.tup [.bi .int [.op .eq (.var 5) (.var 3)], .lit (.int 1)]) (.nm 5) [] [.p (wayD n V ss), .p (.int (n : Int)), .p (tab i n (Tb V ss)), .p (.int (i : Int)), y4, y5] g' (some ((List.range n).map fun (j : Nat) => D.int (j : Int))) = .ok (lf n fun j => fr (idN i j)) g' :=
        compD_n (fun j => fr (idN i j)) (by omega) fun j hj => ⟨[.p (wayD n V ss), .p (.int (n : Int)), .p (tab i n (Tb V ss)), .p (.int (i : Int)), y4, .p (.int (j : Int))], rfl, by
          have hb : bi .int [.bl (decide ((j : Int) = i))] = some (.int (if i = j then 1 else 0)) := by
            show some (D.int (if decide ((j : Int) = i) = true then 1 else 0)) = _
            by_cases h : i = j
            · subst h; simp
            · have : ¬ ((j : Int) = i) := by omega
              rw [decide_eq_false this, if_neg h]; rfl
          simp [op_eq_i, hb, fr_id]⟩
      have ht : bi .tuple [lf n fun j => fr (idN i j)] = some (row n (idN i)) := tuple_lf _ _
      have r := unit_rn h i
      have r1 : RnA 1 1 n V V.beg (idN i) (rep 1 ss) := by rw [rep_one]; exact r
      have s8 := h.s8
      have d := ev_law_done k n 1 1 1 V (idN i) ss g' r1 (by omega) (by decide)
      rw [rep_one] at d
      have d' : evF TT (k + 3) i_law_done [wayD n V ss, row n (idN i), .int 1] g' = .ok (.tup [row n (Tb V ss i), fr (dls V V.beg (idN i) 0 ss)]) g' := d
      have ha : op2 .add (tab i n (Tb V ss)) (.tup [row n (Tb V ss i)]) = some (tab (i + 1) n (Tb V ss)) := by
        unfold tab tf
        rw [op_add_t (by simp; omega), tf_snoc i fun i => row n (Tb V ss i)]
      refine ⟨[.p (wayD n V ss), .p (.int (n : Int)), .p (tab i n (Tb V ss)), .p (.int (i : Int)), y4, y5], rfl, [.p (wayD n V ss), .p (.int (n : Int)), .p (tab (i + 1) n (Tb V ss)), .p (.int (i : Int)), .p (row n (idN i)), y5], g', .inl ?_, rfl, _, _, _, rfl⟩
      rw [bodyOf_eq]
      simp [hr, c, ht, d', ha]) ⟨rfl, .u, .u, .u, rfl⟩
  subst he hg
  simp [b_law_rows, x0, hln, hr, f1]
/-! ### tables multiplied -/
def mulN (n : Nat) (A B : Nat → Nat → Rat) : Nat → Nat → Rat := fun i j => sumN n fun k => A i k * B k j
def powN (n : Nat) (A : Nat → Nat → Rat) : Nat → Nat → Nat → Rat
  | 0 => idN
  | t + 1 => mulN n (powN n A t) A
theorem sumN_add (n : Nat) (x y : Nat → Rat) : sumN n (fun i => x i + y i) = sumN n x + sumN n y := by
  induction n with
  | zero => simp only [sumN]; grind
  | succ n ih => simp only [sumN, ih]; grind
theorem sumN_mulr (n : Nat) (x : Nat → Rat) (c : Rat) : sumN n (fun i => x i * c) = sumN n x * c := by
  induction n with
  | zero => simp only [sumN]; grind
  | succ n ih => simp only [sumN, ih]; grind
theorem sumN_mull (n : Nat) (x : Nat → Rat) (c : Rat) : sumN n (fun i => c * x i) = c * sumN n x := by
  induction n with
  | zero => simp only [sumN]; grind
  | succ n ih => simp only [sumN, ih]; grind
theorem sumN_zero (n : Nat) : sumN n (fun _ => 0) = 0 := by
  induction n with
  | zero => rfl
  | succ n ih => simp only [sumN, ih]; grind
theorem sumN_swap (n m : Nat) (f : Nat → Nat → Rat) : sumN n (fun i => sumN m fun j => f i j) = sumN m fun j => sumN n fun i => f i j := by
  induction n with
  | zero => simp only [sumN]; rw [sumN_zero]
  | succ n ih =>
    simp only [sumN, ih]
    rw [← sumN_add]
/-- tables that agree below n -/
def EqN (n : Nat) (A B : Nat → Nat → Rat) : Prop := ∀ i j, i < n → j < n → A i j = B i j
theorem mulN_assoc (n : Nat) (A B C : Nat → Nat → Rat) : mulN n (mulN n A B) C = mulN n A (mulN n B C) := by
  funext i j
  simp only [mulN]
  have e1 : (fun k => (sumN n fun l => A i l * B l k) * C k j) = fun k => sumN n fun l => A i l * B l k * C k j := by
    funext k; rw [← sumN_mulr]
  have e2 : (fun l => A i l * sumN n fun k => B l k * C k j) = fun l => sumN n fun k => A i l * B l k * C k j := by
    funext l
    rw [← sumN_mull]
    exact sumN_congr fun k _ => by grind
  rw [e1, e2, sumN_swap]
theorem sum_id_r (n : Nat) (x : Nat → Rat) (j : Nat) (hj : j < n) : sumN n (fun k => x k * idN k j) = x j := by
  induction n with
  | zero => omega
  | succ n ih =>
    simp only [sumN]
    by_cases h : j < n
    · rw [ih h]
      have : idN n j = 0 := by simp only [idN]; rw [if_neg (by omega)]
      rw [this]; grind
    · have e : j = n := by omega
      subst e
      have z : sumN j (fun k => x k * idN k j) = 0 := by
        rw [← sumN_zero j]
        exact sumN_congr fun k hk => by
          have : idN k j = 0 := by simp only [idN]; rw [if_neg (by omega)]
          rw [this]; grind
      have : idN j j = 1 := by simp [idN]
      rw [z, this]; grind
theorem mulN_congr {n : Nat} {A A' B B' : Nat → Nat → Rat} (h1 : EqN n A A') (h2 : EqN n B B') : EqN n (mulN n A B) (mulN n A' B') := fun i j hi hj =>
  sumN_congr fun k hk => by rw [h1 i k hi hk, h2 k j hk hj]
theorem mulN_id_r (n : Nat) (A : Nat → Nat → Rat) : EqN n (mulN n A idN) A := fun i j hi hj => sum_id_r n (A i) j hj
theorem EqN.trans {n : Nat} {A B C : Nat → Nat → Rat} (h1 : EqN n A B) (h2 : EqN n B C) : EqN n A C := fun i j hi hj => (h1 i j hi hj).trans (h2 i j hi hj)
theorem EqN.symm {n : Nat} {A B : Nat → Nat → Rat} (h1 : EqN n A B) : EqN n B A := fun i j hi hj => (h1 i j hi hj).symm
theorem EqN.refl (n : Nat) (A : Nat → Nat → Rat) : EqN n A A := fun _ _ _ _ => rfl
theorem powN_add (n : Nat) (A : Nat → Nat → Rat) (s : Nat) : ∀ t, EqN n (powN n A (s + t)) (mulN n (powN n A s) (powN n A t))
  | 0 => (mulN_id_r n _).symm
  | t + 1 => by
    show EqN n (mulN n (powN n A (s + t)) A) (mulN n (powN n A s) (mulN n (powN n A t) A))
    rw [← mulN_assoc]
    exact mulN_congr (powN_add n A s t) (.refl n A)
end Rz
/-! RzM14 -/
set_option linter.all false
set_option maxRecDepth 100000
set_option exponentiation.threshold 20000
namespace Rz
end Rz
/-! RzM15 -/
set_option linter.all false
set_option maxRecDepth 100000
set_option exponentiation.threshold 20000
namespace Rz
/-- Z is A times L -/
structure Who (n : Nat) (A : Nat → Nat → Rat) (Z : Nat → Nat → Int) (L : Nat) : Prop where
  L0 : 0 < L
  eq : ∀ i j, i < n → j < n → ((Z i j : Int) : Rat) = A i j * (L : Rat)
theorem ixq0 (g : Gs) (q : Rat) : ixD g (fr q) (.int 0) = some (.int q.num) := ix_t0 g _ _
theorem ixq1 (g : Gs) (q : Rat) : ixD g (fr q) (.int 1) = some (.int (q.den : Int)) := ix_t1 g _ _ _
end Rz
/-! RzM16 -/
set_option linter.all false
set_option maxRecDepth 100000
set_option exponentiation.threshold 20000
namespace Rz
/-! ### whole tables multiplied -/
def isum : Nat → (Nat → Int) → Int
  | 0, _ => 0
  | n + 1, x => isum n x + x n
theorem isum_abs {n : Nat} {x : Nat → Int} {b : Nat} (h : ∀ i, i < n → (x i).natAbs ≤ b) : (isum n x).natAbs ≤ n * b := by
  induction n with
  | zero => simp [isum]
  | succ n ih =>
    have h1 := ih fun i hi => h i (by omega)
    have h2 := h n (by omega)
    simp only [isum]
    have := Int.natAbs_add_le (isum n x) (x n)
    rw [Nat.succ_mul]; omega
theorem isum_cast (n : Nat) (x : Nat → Int) : ((isum n x : Int) : Rat) = sumN n fun i => ((x i : Int) : Rat) := by
  induction n with
  | zero => rfl
  | succ n ih => simp only [isum, sumN, ← ih]; push_cast; rfl
def zmul (n : Nat) (Y Z : Nat → Nat → Int) : Nat → Nat → Int := fun i j => isum n fun k => Y i k * Z k j
/-- all entries at most b -/
def Zb (n b : Nat) (Z : Nat → Nat → Int) : Prop := ∀ i j, i < n → j < n → (Z i j).natAbs ≤ b
theorem zmul_b {n b c : Nat} {Y Z : Nat → Nat → Int} (hy : Zb n b Y) (hz : Zb n c Z) : Zb n (n * (b * c)) (zmul n Y Z) := fun i j hi hj =>
  isum_abs fun k hk => by
    rw [Int.natAbs_mul]
    exact Nat.mul_le_mul (hy i k hi hk) (hz k j hk hj)
theorem zmul_who {n L M : Nat} {A B : Nat → Nat → Rat} {Y Z : Nat → Nat → Int} (h1 : Who n A Y L) (h2 : Who n B Z M) : Who n (mulN n A B) (zmul n Y Z) (L * M) := ⟨Nat.mul_pos h1.L0 h2.L0, fun i j hi hj => by
  simp only [zmul, mulN]
  rw [isum_cast, ← sumN_mulr]
  exact sumN_congr fun k hk => by
    have a := h1.eq i k hi hk
    have b := h2.eq k j hk hj
    push_cast
    rw [a, b]; grind⟩
end Rz
/-! RzM17 -/
set_option linter.all false
set_option maxRecDepth 100000
set_option exponentiation.threshold 20000
namespace Rz
theorem Who.congr {n L : Nat} {A B : Nat → Nat → Rat} {Z : Nat → Nat → Int} (h : Who n A Z L) (e : EqN n A B) : Who n B Z L := ⟨h.L0, fun i j hi hj => by rw [← e i j hi hj]; exact h.eq i j hi hj⟩
/-- a whole table of the q-th power, with its size -/
structure Pw (n : Nat) (A : Nat → Nat → Rat) (q : Nat) (b : Nat) (Z : Nat → Nat → Int) (L : Nat) : Prop where
  who : Who n (powN n A q) Z L
  zb : Zb n b Z
  bq : b ≤ 2 ^ (32 * q)
  lq : L ≤ 2 ^ (30 * q)
theorem Pw.mul {n : Nat} {A : Nat → Nat → Rat} {p q b c L M : Nat} {Y Z : Nat → Nat → Int} (hn : n ≤ 4) (h1 : Pw n A p b Y L) (h2 : Pw n A q c Z M) (hc : 4 * c ≤ 2 ^ (32 * q)) : Pw n A (p + q) (n * (b * c)) (zmul n Y Z) (L * M) := by
  refine ⟨(zmul_who h1.who h2.who).congr (powN_add n A p q).symm, zmul_b h1.zb h2.zb, ?_, ?_⟩
  · calc n * (b * c) ≤ 4 * (b * c) := Nat.mul_le_mul_right _ hn
      _ = b * (4 * c) := by rw [Nat.mul_left_comm]
      _ ≤ 2 ^ (32 * p) * 2 ^ (32 * q) := Nat.mul_le_mul h1.bq hc
      _ = 2 ^ (32 * (p + q)) := by rw [← Nat.pow_add, Nat.mul_add]
  · calc L * M ≤ 2 ^ (30 * p) * 2 ^ (30 * q) := Nat.mul_le_mul h1.lq h2.lq
      _ = 2 ^ (30 * (p + q)) := by rw [← Nat.pow_add, Nat.mul_add]
theorem Pw.lt {n : Nat} {A : Nat → Nat → Rat} {q b L : Nat} {Z : Nat → Nat → Int} (h : Pw n A q b Z L) (hq : q ≤ 200) : b < BB ∧ L < BB := by
  have h1 : (2 : Nat) ^ (32 * q) ≤ 2 ^ 6400 := Nat.pow_le_pow_right (by decide) (by omega)
  have h2 : (2 : Nat) ^ (30 * q) ≤ 2 ^ 6400 := Nat.pow_le_pow_right (by decide) (by omega)
  have h3 : (2 : Nat) ^ 6400 < BB := by rw [BB_eq]; exact Nat.pow_lt_pow_right (by decide) (by decide)
  exact ⟨Nat.lt_of_le_of_lt (Nat.le_trans h.bq h1) h3, Nat.lt_of_le_of_lt (Nat.le_trans h.lq h2) h3⟩
end Rz
/-! RzM18 -/
set_option linter.all false
set_option maxRecDepth 100000
set_option exponentiation.threshold 20000
namespace Rz
theorem Who.zb {n L : Nat} {A : Nat → Nat → Rat} {Z : Nat → Nat → Int} (h : Who n A Z L) (lo : ∀ i j, i < n → j < n → 0 ≤ A i j ∧ A i j ≤ 1) : Zb n L Z := fun i j hi hj => by
  have e := h.eq i j hi hj
  have ⟨l0, l1⟩ := lo i j hi hj
  have p : (0 : Rat) ≤ (L : Rat) := by exact_mod_cast Nat.zero_le L
  have a : (0 : Rat) ≤ ((Z i j : Int) : Rat) := by rw [e]; exact Rat.mul_nonneg l0 p
  have b : ((Z i j : Int) : Rat) ≤ ((L : Int) : Rat) := by
    rw [e]
    have := Rat.mul_le_mul_of_nonneg_right l1 p
    push_cast; grind
  have a' : 0 ≤ Z i j := by exact_mod_cast a
  have b' : Z i j ≤ (L : Int) := Rat.intCast_le_intCast.mp b
  omega
end Rz
/-! RzM19 -/
set_option linter.all false
set_option maxRecDepth 100000
set_option exponentiation.threshold 20000
namespace Rz
end Rz
/-! RzM20 -/
set_option linter.all false
set_option maxRecDepth 100000
set_option exponentiation.threshold 20000
namespace Rz
end Rz
/-! RzM21 -/
set_option linter.all false
set_option maxRecDepth 100000
set_option exponentiation.threshold 20000
namespace Rz
@[simp] theorem frz_one (i : Nat) (env : Env) : frz [i] env = frzS env i := nr rfl
theorem blt_line {n : Nat} (h : n < 1000) : Nat.blt n lineN = true := by
  show Nat.ble (n + 1) lineN = true
  exact Nat.ble_eq_true_of_le (by have : lineN = 1000000 := rfl
                                  omega)
theorem lf_snoc (n : Nat) (f : Nat → D) : (List.range n).map f ++ [f n] = (List.range (n + 1)).map f := tf_snoc n f
theorem app_lf {C : Nat → List D → Gs → R D} {env : Env} {g : Gs} {i n : Nat} {e : Ex} {f : Nat → D} {d : D} (h1 : getS env i = .o (lf n f)) (h2 : evE C e env g = .ok d g) (hd : d = f n) (hn : n < 1000) : evS C (.app i e) env g = .nx (setS env i (.o (lf (n + 1) f))) g := by
  subst hd
  rw [evS_app, h1, h2]
  show appD i env (.ok (f n) g) (.o (.lst ((List.range n).map f))) = _
  rw [appD_o, to_ok, if_pos (by simpa using blt_line hn), lf_snoc]
  rfl
end Rz
/-! RzM22 -/
set_option linter.all false
set_option maxRecDepth 100000
set_option exponentiation.threshold 20000
namespace Rz
end Rz
/-! RzM23 -/
set_option linter.all false
set_option maxRecDepth 100000
set_option exponentiation.threshold 20000
namespace Rz
/-! ### sizes of rows -/
theorem Dr.sms {D M n : Nat} {x : Nat → Rat} (h : Dr D M n x) (hD : 0 < D) (hM : 0 < M) (hb : M * D < BB) : SmS n x :=
  ⟨fun i hi => (h.rd hi).sm hD hM hb, fun i hi => Rd.sm (D := D) (M := M) ⟨sumN_iz fun j hj => h.iz j (by omega), sumN_nn fun j hj => h.lo j (by omega), by
    have := sumN_mono h.lo hi
    have := h.sum
    grind⟩ hD hM hb⟩
theorem sumN_le_sumN {n : Nat} {x y : Nat → Rat} (h : ∀ i, i < n → x i ≤ y i) : sumN n x ≤ sumN n y := by
  induction n with
  | zero => exact Rat.le_refl
  | succ n ih =>
    have h1 := ih fun i hi => h i (by omega)
    have h2 := h n (by omega)
    simp only [sumN]; grind
theorem Dr.le1 {W n : Nat} {x : Nat → Rat} (h : Dr W 1 n x) {j : Nat} (hj : j < n) : x j ≤ 1 := by
  have := (h.rd hj).hi
  simpa using this
theorem col_dr {D M W n : Nat} {x : Nat → Rat} {A : Nat → Nat → Rat} (h : Dr D M n x) (hA : ∀ i, i < n → Dr W 1 n (A i)) {j : Nat} (hj : j < n) : Dr (D * W) M n fun i => x i * A i j :=
  ⟨fun i hi => (h.iz i hi).mul ((hA i hi).iz j hj), fun i hi => Rat.mul_nonneg (h.lo i hi) ((hA i hi).lo j hj), by
    have := sumN_le_sumN (n := n) (x := fun i => x i * A i j) (y := x) fun i hi => mul_le_self (h.lo i hi) ((hA i hi).le1 hj)
    have := h.sum
    grind⟩
theorem led_dr {D M W n : Nat} {x : Nat → Rat} {A : Nat → Nat → Rat} (h : Dr D M n x) (hA : ∀ i, i < n → Dr W 1 n (A i)) : Dr (D * W) M n fun j => sumN n fun i => x i * A i j :=
  ⟨fun j hj => sumN_iz fun i hi => (col_dr h hA hj).iz i hi, fun j hj => sumN_nn fun i hi => (col_dr h hA hj).lo i hi, by
    have e : (sumN n fun j => sumN n fun i => x i * A i j) = sumN n fun i => x i * sumN n (A i) := by
      rw [sumN_swap]
      exact sumN_congr fun i _ => by rw [sumN_mull]
    rw [e]
    have := sumN_le_sumN (n := n) (x := fun i => x i * sumN n (A i)) (y := x) fun i hi => mul_le_self (h.lo i hi) (by have := (hA i hi).sum; simpa using this)
    have := h.sum
    grind⟩
theorem powN_dr {W n : Nat} {A : Nat → Nat → Rat} (hA : ∀ i, i < n → Dr W 1 n (A i)) : ∀ t i, i < n → Dr (W ^ t) 1 n (powN n A t i)
  | 0, i, hi => by rw [Nat.pow_zero]; exact id_dr n i
  | t + 1, i, hi => by rw [Nat.pow_succ]; exact led_dr (powN_dr hA t i hi) hA
/-- shares: W a common denominator -/
structure Sh (n W : Nat) (A : Nat → Nat → Rat) : Prop where
  W0 : 0 < W
  dr : ∀ i, i < n → Dr W 1 n (A i)
theorem Sh.lo {n W : Nat} {A : Nat → Nat → Rat} (h : Sh n W A) : ∀ i j, i < n → j < n → 0 ≤ A i j ∧ A i j ≤ 1 := fun i j hi hj => ⟨(h.dr i hi).lo j hj, (h.dr i hi).le1 hj⟩
theorem Sh.pow {n W : Nat} {A : Nat → Nat → Rat} (h : Sh n W A) (t : Nat) : Sh n (W ^ t) (powN n A t) := ⟨Nat.pow_pos h.W0, powN_dr h.dr t⟩
theorem way_sh {n : Nat} {V : Ves} {ss : List Stp} (h : WayOk n V ss) : ∃ W, W ≤ 2 ^ 29 ∧ Sh n W (Tb V ss) := by
  have w := wps_le h.vok ss V.beg (beg_ok h.vok) h.sok
  refine ⟨wps V V.beg ss, ?_, w.1, fun i hi => ?_⟩
  · exact Nat.le_trans w.2 (Nat.le_trans (Nat.pow_le_pow_right (by decide) h.s8) (by decide))
  · have := dxs_dr h.vok ss V.beg (idN i) 1 (beg_ok h.vok) h.sok (id_dr n i)
    rw [Nat.one_mul] at this
    exact this
theorem T_need_dirt : TT i_need_dirt = some d_need_dirt := rfl
theorem T_is_dirt_for : TT i_is_dirt_for = some d_is_dirt_for := rfl
theorem T_is_amount : TT i_is_amount = some d_is_amount := rfl
theorem T_is_any_fraction : TT i_is_any_fraction = some d_is_any_fraction := rfl
theorem istup_fr (q : Rat) : bi .istup [fr q] = some (.bl true) := rfl
theorem len_fr (q : Rat) : bi .len [fr q] = some (.int 2) := rfl
theorem low_self (k : Nat) (q : Rat) (g : Gs) (h : Sm q) : evF TT (k + 2) i_lowest [.int q.num, .int (q.den : Int)] g = .ok (fr q) g := by
  have hBB : BB ≤ B2 := by rw [BB_eq, B2_eq]; exact Nat.pow_le_pow_right (by decide) (by decide)
  have h1 := h.num
  have h2 := h.den
  have := ev_lowest k q.num (q.den : Int) g (by have := q.den_nz; omega) (by omega) (by rw [natAbs_ofNat']; omega)
  rw [Rat.num_divInt_den] at this
  exact this
theorem ev_is_any_fraction (k : Nat) (q : Rat) (g : Gs) (h : Sm q) : evF TT (k + 3) i_is_any_fraction [fr q] g = .ok (.bl true) g := by
  rw [evF_s T_is_any_fraction, runF_eq rfl]
  show outR (evSs (evF TT (k + 2)) b_is_any_fraction [.p (fr q)] g) = _
  have l := low_self k q g h
  have e := eq_self (pl_fr 59 q)
  have n2 : op2 .ne (.int 2) (.int 2) = some (.bl false) := rfl
  have i1 := ev_is_integer (k + 1) q.num g
  have i2 := ev_is_integer (k + 1) (q.den : Int) g
  have hd : (1 : Int) ≤ (q.den : Int) := by have := q.den_pos; omega
  simp only [b_is_any_fraction, evSs_cons, evSs_nil, evS_ite, evE_or, evE_not, evE_bi, evEs_cons, evEs_nil, evE_var, getS_z, getS_s, slV_p, bind_ok, istup_fr, of_some, notD_bl, Bool.not_true, iteD_bl, Bool.false_eq_true, if_false, evE_op, len_fr, evE_lit, n2, evE_call, evE_ix, ixq0, ixq1, i1, i2, to_ok, thenS_nx, evS_ret, evE_and, op_ge_i, hd, decide_true, if_true, l, e, thenS_ret, outR_ret]
/-- an amount of dirt -/
structure Amt (q : Rat) : Prop where
  lo : 0 ≤ q
  num : q.num ≤ 100000000000000000000000000000000000000
  den : q.den ≤ 100000000000000000000000000000000000000
theorem Amt.sm {q : Rat} (h : Amt q) : Sm q := by
  have b : 100000000000000000000000000000000000000 < BB := Nat.lt_trans (show 100000000000000000000000000000000000000 < 2 ^ 200 by decide) (by rw [BB_eq]; exact Nat.pow_lt_pow_right (by decide) (by decide))
  have h0 : 0 ≤ q.num := Rat.num_nonneg.mpr h.lo
  have h1 := h.num
  have h2 := h.den
  constructor
  · omega
  · omega
theorem ev_is_amount (k : Nat) (q : Rat) (g : Gs) (h : Amt q) : evF TT (k + 4) i_is_amount [fr q] g = .ok (.bl true) g := by
  rw [evF_s T_is_amount, runF_eq rfl]
  show outR (evSs (evF TT (k + 3)) b_is_amount [.p (fr q)] g) = _
  have f := ev_is_any_fraction k q g h.sm
  have h0 : 0 ≤ q.num := Rat.num_nonneg.mpr h.lo
  have h1 : q.num ≤ 100000000000000000000000000000000000000 := h.num
  have h2 : (q.den : Int) ≤ 100000000000000000000000000000000000000 := by have := h.den; omega
  simp only [b_is_amount, evSs_cons, evSs_nil, evS_ret, evE_and, evE_call, evEs_cons, evEs_nil, evE_var, getS_z, getS_s, slV_p, bind_ok, f, iteD_bl, if_true, evE_chain, evE_lit, evE_ix, ixq0, ixq1, of_some, op_le_i, h0, decide_true, chD_bl, evE_glo, h1, evE_op, h2, to_ok, thenS_ret, outR_ret]
theorem ev_is_dirt_for (k n : Nat) (x : Nat → Rat) (g : Gs) (hn : n ≤ 1000) (h : ∀ i, i < n → Amt (x i)) : evF TT (k + 5) i_is_dirt_for [.int (n : Int), row n x] g = .ok (.bl true) g := by
  rw [evF_s T_is_dirt_for, runF_eq rfl]
  show outR (evSs (evF TT (k + 4)) b_is_dirt_for [.p (.int (n : Int)), .p (row n x), .u] g) = _
  have t : bi .istup [row n x] = some (.bl true) := rfl
  have l : bi .len [row n x] = some (.int (n : Int)) := len_tf _ _
  have i : items .seq [row n x] = some ((List.range n).map fun i => fr (x i)) := items_seq (sq_tf _ _)
  have c : compD (evF TT (k + 4)) (.call i_is_amount [.var 2]) (.nm 2) [] [.p (.int (n : Int)), .p (row n x), .u] g (some ((List.range n).map fun i => fr (x i))) = .ok (.lst ((List.range n).map fun _ => .bl true)) g :=
    compD_l (List.range n) (fun i => fr (x i)) (fun _ => .bl true) (by simp; omega) fun i hi => ⟨[.p (.int (n : Int)), .p (row n x), .p (fr (x i))], rfl, by simp only [evE_call, evEs_cons, evEs_nil, evE_var, getS_z, getS_s, slV_p, bind_ok, ev_is_amount k (x i) g (h i (List.mem_range.mp hi))]⟩
  simp only [b_is_dirt_for, evSs_cons, evSs_nil, evS_ret, evE_and, evE_bi, evE_call, evEs_cons, evEs_nil, evE_var, getS_z, getS_s, slV_p, bind_ok, t, of_some, iteD_bl, if_true, evE_op, l, op_eq_i, decide_true, evE_comp, i, c, all_true, to_ok, thenS_ret, outR_ret]
theorem ev_need_dirt (k n : Nat) (x : Nat → Rat) (g : Gs) (hn : n ≤ 1000) (h : ∀ i, i < n → Amt (x i)) : evF TT (k + 6) i_need_dirt [.int (n : Int), row n x] g = .ok .non g := by
  rw [evF_s T_need_dirt, runF_eq rfl]
  show outR (evSs (evF TT (k + 5)) b_need_dirt [.p (.int (n : Int)), .p (row n x)] g) = _
  simp [b_need_dirt, ev_is_dirt_for k n x g hn h]
theorem sm_one : Sm 1 := ⟨Nat.lt_of_le_of_lt (show 1 ≤ 2 ^ 6000 from Nat.one_le_two_pow) (small_BB (Nat.le_refl _)), Nat.lt_of_le_of_lt (show 1 ≤ 2 ^ 6000 from Nat.one_le_two_pow) (small_BB (Nat.le_refl _))⟩
/-- dirt of a law -/
structure Dt (n : Nat) (x : Nat → Rat) : Prop where
  amt : ∀ i, i < n → Amt (x i)
  dr : Dr 18 (3 * 10 ^ 20) n x
def ledN (n : Nat) (x : Nat → Rat) (A : Nat → Nat → Rat) (j : Nat) : Rat := sumN n fun i => x i * A i j
end Rz
/-! RzM24 -/
set_option linter.all false
set_option maxRecDepth 100000
set_option exponentiation.threshold 20000
namespace Rz
theorem T_law_dirt : TT i_law_dirt = some d_law_dirt := rfl
theorem row_snoc (i : Nat) (x : Nat → Rat) (q : Rat) (hi : i ≤ 1000) : op2 .add (row i x) (.tup [fr q]) = some (row (i + 1) (up x i q)) := by
  unfold row tf
  rw [op_add_t (by simp; omega), List.range_succ, List.map_append]
  congr 3
  · apply List.map_congr_left
    intro j hj
    have : j ≠ i := by have := List.mem_range.mp hj; omega
    simp [up, this]
  · simp [up]
/-- an amount that a law draws -/
structure Dq (q : Rat) : Prop where
  iz : Iz 18 q
  lo : 0 ≤ q
  hi : q ≤ ((10 ^ 20 : Nat) : Rat)
theorem dq_of (t b : Nat) (ht : t ≤ 10 ^ 20) (hb : b = 1 ∨ b = 2 ∨ b = 9) : Dq (Rat.divInt (t : Int) (b : Int)) := by
  have hb0 : (0 : Rat) < (b : Rat) := by
    have : 0 < b := by omega
    exact_mod_cast this
  have e : Rat.divInt (t : Int) (b : Int) = (t : Rat) / (b : Rat) := by rw [Rat.divInt_eq_div]; push_cast; rfl
  have t0 : (0 : Rat) ≤ (t : Rat) := by exact_mod_cast Nat.zero_le t
  have t1 : (t : Rat) ≤ ((10 ^ 20 : Nat) : Rat) := by exact_mod_cast ht
  rw [e]
  refine ⟨?_, div_nn hb0 t0, ?_⟩
  · rcases hb with rfl | rfl | rfl
    · exact ⟨(t : Int) * 18, by push_cast; grind⟩
    · exact ⟨(t : Int) * 9, by push_cast; grind⟩
    · exact ⟨(t : Int) * 2, by push_cast; grind⟩
  · have h1 : (1 : Rat) ≤ (b : Rat) := by
      have : 1 ≤ b := by omega
      exact_mod_cast this
    have d := div_mul_c (m := (t : Rat)) hb0
    have nn := div_nn hb0 t0
    have : (t : Rat) / (b : Rat) * 1 ≤ (t : Rat) / (b : Rat) * (b : Rat) := Rat.mul_le_mul_of_nonneg_left h1 nn
    grind
theorem dq_amt {q : Rat} (h : Dq q) : Amt q := by
  have r : Rd 18 (10 ^ 20) q := ⟨h.iz, h.lo, h.hi⟩
  have d := Nat.le_of_dvd (by decide) h.iz.den
  have n := r.num_le
  have e : (10 : Nat) ^ 20 = 100000000000000000000 := by decide
  rw [e] at n
  refine ⟨h.lo, ?_, ?_⟩
  · have : 100000000000000000000 * q.den ≤ 100000000000000000000 * 18 := Nat.mul_le_mul_left _ d
    omega
  · omega
theorem dq_dt {n : Nat} {x : Nat → Rat} (hn : n ≤ 3) (h : ∀ i, i < n → Dq (x i)) : Dt n x := by
  refine ⟨fun i hi => dq_amt (h i hi), fun i hi => (h i hi).iz, fun i hi => (h i hi).lo, ?_⟩
  have : ∀ m, m ≤ n → sumN m x ≤ (m : Rat) * ((10 ^ 20 : Nat) : Rat) := by
    intro m
    induction m with
    | zero => intro _; simp only [sumN]; grind
    | succ m ih =>
      intro hm
      have h1 := ih (by omega)
      have h2 := (h m (by omega)).hi
      simp only [sumN]; push_cast at *; grind
  have h1 := this n (Nat.le_refl n)
  have h2 : (n : Rat) ≤ 3 := by exact_mod_cast hn
  have h3 : (0 : Rat) ≤ ((10 ^ 20 : Nat) : Rat) := by exact_mod_cast Nat.zero_le _
  have h4 := Rat.mul_le_mul_of_nonneg_right h2 h3
  push_cast at *
  grind
theorem ev_law_dirt (k m n : Nat) (g : Gs) (hs : Sv g m) (hn : n ≤ 3) : ∃ (x : Nat → Rat) (g' : Gs), evF TT (k + 3) i_law_dirt [.mref m, .int (n : Int)] g = .ok (row n x) g' ∧ Dt n x ∧ (∀ i, i < n → Dq (x i)) ∧ Sv g' m := by
  rw [evF_s T_law_dirt, runF_eq rfl]
  show ∃ (x : Nat → Rat) (g' : Gs), outR (evSs (evF TT (k + 2)) b_law_dirt [.p (.mref m), .p (.int (n : Int)), .u, .u, .u] g) = _ ∧ _
  generalize hb : ([.asg 4 (.call i_law_some [.var 0, .lst [.lit (.int 0), .lit (.int 1), .lit (.int 3), .lit (.int 10), .lit (.int 25),
    .op .pow (.lit (.int 10)) (.lit (.int 20))]]), .asg 2 (.op .add (.var 2) (.tup [.call i_law_low [.var 4, .call i_law_some [.var 0, .lst [.lit (.int 1),
    .lit (.int 1), .lit (.int 2), .lit (.int 9)]]]]))] : List St) = body
  obtain ⟨env', g', f1, x, hx, y3, y4, he, hs'⟩ := forL_n (t := .nm 3) (f := fun (i : Nat) => D.int (i : Int)) (b := bodyOf (evF TT (k + 2)) body) (env := [.p (.mref m), .p (.int (n : Int)), .p (.tup []), .u, .u]) (g := g)
    (fun i e g => ∃ x : Nat → Rat, (∀ j, j < i → Dq (x j)) ∧ ∃ y3 y4, e = [.p (.mref m), .p (.int (n : Int)), .p (row i x), y3, y4] ∧ Sv g m) n (fun i e g hi ⟨x, hx, y3, y4, he, hs⟩ => by
      subst he
      obtain ⟨t, g2, q2, ht, hs2⟩ := some_i k m [0, 1, 3, 10, 25, 100000000000000000000] g hs (by decide) (by decide)
      obtain ⟨b, g3, q3, hb3, hs3⟩ := some_i k m [1, 1, 2, 9] g2 hs2 (by decide) (by decide)
      simp only [List.map_cons, List.map_nil] at q2 q3
      obtain ⟨tn, rfl, htn⟩ : ∃ tn : Nat, t = (tn : Int) ∧ tn ≤ 10 ^ 20 := ⟨t.toNat, by simp at ht; omega, by simp at ht; omega⟩
      obtain ⟨bn, rfl, hbn⟩ : ∃ bn : Nat, b = (bn : Int) ∧ (bn = 1 ∨ bn = 2 ∨ bn = 9) := ⟨b.toNat, by simp at hb3; omega, by simp at hb3; omega⟩
      have q := dq_of tn bn htn hbn
      have hB : (10 : Nat) ^ 20 < B2 := by rw [B2_eq]; exact Nat.lt_of_lt_of_le (show 10 ^ 20 < 2 ^ 100 by decide) (Nat.pow_le_pow_right (by decide) (by decide))
      have l := ev_law_low (k + 1) (tn : Int) (bn : Int) g3 (by omega) (by rw [natAbs_ofNat']; omega) (by rw [natAbs_ofNat']; omega)
      have a := row_snoc i x (Rat.divInt (tn : Int) (bn : Int)) (by omega)
      have pw : op2 .pow (.int 10) (.int 20) = some (.int 100000000000000000000) := by rfl
      refine ⟨[.p (.mref m), .p (.int (n : Int)), .p (row i x), .p (.int (i : Int)), y4], rfl, [.p (.mref m), .p (.int (n : Int)), .p (row (i + 1) (up x i (Rat.divInt (tn : Int) (bn : Int)))), .p (.int (i : Int)), .p (.int (tn : Int))], g3, .inl ?_, up x i (Rat.divInt (tn : Int) (bn : Int)), fun j hj => ?_, _, _, rfl, hs3⟩
      · rw [bodyOf_eq, ← hb]
        simp only [evSs_cons, evSs_nil, evS_asg, evE_call, evEs_cons, evEs_nil, evE_var, evE_lst, evE_lit, evE_op, evE_tup, getS_z, getS_s, slV_p, bind_ok, pw, of_some, q2, to_ok, setS_z, setS_s, thenS_nx, q3, l, a]
      · simp only [up]
        by_cases c : j = i
        · rw [if_pos c]; exact q
        · rw [if_neg c]; exact hx j (by omega)) ⟨fun _ => 0, fun j hj => by omega, .u, .u, rfl, hs⟩
  refine ⟨x, g', ?_, dq_dt hn hx, hx, hs'⟩
  subst he
  rw [b_law_dirt, hb]
  simp only [evSs_cons, evSs_nil, evS_asg, evE_tup, evEs_nil, bind_ok, to_ok, setS_z, setS_s, thenS_nx, evS_for, evEs_cons, evE_var, getS_z, getS_s, slV_p, fork_ok, items_rng (show n ≤ 1000000 by omega), forD_some, f1, evS_ret, thenS_ret, outR_ret]
/-- the law's own sieve -/
theorem ev_new_sieve (k : Nat) (ns : List Int) (i : Nat) (env : Env) (g : Gs) (h0 : getS env 0 = .p (.scr (ns.map D.int))) (h1 : getS env 1 = .p (.int (i : Int))) (hi : i < 1000) : ∃ g', evS (evF TT (k + 1)) (.cel 2 (.call i_law_sieve [.var 0, .var 1])) env g = .nx (setS env 2 (.p (.mref g.length))) g' ∧ Sv g' g.length := by
  obtain ⟨a, b, e, hb⟩ := ev_sieve k ns i g hi
  refine ⟨g ++ [[.int a, .int b]], ?_, a, b, by simp, hb⟩
  simp only [evS_cel, evE_call, evEs_cons, evEs_nil, evE_var, h0, h1, slV_p, bind_ok, e, to_ok, celD_lst]
  rfl
theorem law_range (ns : List Int) (a b c : Int) (ha : 0 ≤ a) (hab : a ≤ b) (hb : b ≤ 100) : ∃ nn : Nat, nn ≤ 100 ∧ bi .max2 [.int a, .int (min b ((ns.length : Int) + c))] = some (.int (nn : Int)) := by
  refine ⟨(max a (min b ((ns.length : Int) + c))).toNat, by omega, ?_⟩
  show some (D.int (if _ > _ then _ else _)) = _
  congr 2
  split <;> omega
theorem len_scr (ns : List Int) : bi .len [.scr (ns.map D.int)] = some (.int (ns.length : Int)) := by
  show some (D.int ((ns.map D.int).length : Int)) = _
  rw [List.length_map]
end Rz
/-! RzG1 -/
set_option linter.all false
set_option maxRecDepth 100000
set_option exponentiation.threshold 20000
namespace Rz
/-! ### elimination in plain numbers -/
abbrev Vc := Nat → Rat
def lead (n : Nat) (x : Vc) : Option Nat := (List.range n).find? fun i => decide (x i ≠ 0)
def ld (n : Nat) (x : Vc) : Nat := (lead n x).getD 0
def less (x y : Vc) (c : Rat) : Vc := fun i => x i - c * y i
def red (n : Nat) (B : List Vc) (x : Vc) : Vc := B.foldl (fun x b => less x b (x (ld n b))) x
def unit (r : Vc) (l : Nat) : Vc := fun i => r i / r l
def grow (n : Nat) (B : List Vc) (x : Vc) : List Vc := match lead n (red n B x) with
  | none => B
  | some l => B.map (fun b => less b (unit (red n B x) l) (b l)) ++ [unit (red n B x) l]
theorem lead_some {n : Nat} {x : Vc} {l : Nat} (h : lead n x = some l) : l < n ∧ x l ≠ 0 ∧ ∀ j, j < l → x j = 0 := by
  unfold lead at h
  rw [List.find?_range_eq_some] at h
  obtain ⟨h1, h2, h3⟩ := h
  refine ⟨by simpa using h2, by simpa using h1, fun j hj => ?_⟩
  have := h3 j hj
  simpa using this
theorem lead_none {n : Nat} {x : Vc} (h : lead n x = none) : ∀ j, j < n → x j = 0 := by
  unfold lead at h
  rw [List.find?_range_eq_none] at h
  intro j hj
  have := h j hj
  simpa using this
theorem lead_of {n : Nat} {x : Vc} {l : Nat} (h1 : l < n) (h2 : x l ≠ 0) (h3 : ∀ j, j < l → x j = 0) : lead n x = some l := by
  unfold lead
  rw [List.find?_range_eq_some]
  refine ⟨by simpa using h2, by simpa using h1, fun j hj => ?_⟩
  simpa using h3 j hj
theorem lead_zero {n : Nat} {x : Vc} (h : ∀ j, j < n → x j = 0) : lead n x = none := by
  cases e : lead n x with
  | none => rfl
  | some l => have := lead_some e; exact absurd (h l this.1) this.2.1
/-- a row of a basis -/
structure Ld (n : Nat) (b : Vc) : Prop where
  lt : ld n b < n
  one : b (ld n b) = 1
  lo : ∀ j, j < ld n b → b j = 0
theorem Ld.lead {n : Nat} {b : Vc} (h : Ld n b) : Rz.lead n b = some (ld n b) := lead_of h.lt (by rw [h.one]; decide) h.lo
theorem Ld.of {n : Nat} {b : Vc} {l : Nat} (h1 : l < n) (h2 : b l = 1) (h3 : ∀ j, j < l → b j = 0) : Ld n b ∧ ld n b = l := by
  have e : Rz.lead n b = some l := lead_of h1 (by rw [h2]; decide) h3
  have e2 : ld n b = l := by unfold ld; rw [e]; rfl
  exact ⟨⟨by rw [e2]; exact h1, by rw [e2]; exact h2, by rw [e2]; exact h3⟩, e2⟩
/-- reduced rows with leading ones -/
structure Bas (n : Nat) (B : List Vc) : Prop where
  lds : ∀ b ∈ B, Ld n b
  off : B.Pairwise fun b c => b (ld n c) = 0 ∧ c (ld n b) = 0
theorem bas_nil (n : Nat) : Bas n [] := ⟨fun b h => (List.not_mem_nil h).elim, .nil⟩
theorem red_append (n : Nat) (B C : List Vc) (x : Vc) : red n (B ++ C) x = red n C (red n B x) := by unfold red; rw [List.foldl_append]
/-- at the leads seen a reduced row is 0 -/
theorem red_zero {n : Nat} : ∀ {B : List Vc} (x : Vc), Bas n B → ∀ b ∈ B, red n B x (ld n b) = 0 := by
  have keep : ∀ (B : List Vc) (x : Vc) (l : Nat), (∀ c ∈ B, c l = 0) → red n B x l = x l := by
    intro B
    induction B with
    | nil => intro x l _; rfl
    | cons c B ih =>
      intro x l h
      show red n B (less x c (x (ld n c))) l = x l
      rw [ih _ l fun d hd => h d (List.mem_cons_of_mem _ hd)]
      simp only [less]; rw [h c (List.mem_cons_self ..)]; grind
  intro B
  induction B with
  | nil => intro x _ b h; exact (List.not_mem_nil h).elim
  | cons c B ih =>
    intro x h b hb
    have ho := List.pairwise_cons.mp h.off
    have hB : Bas n B := ⟨fun d hd => h.lds d (List.mem_cons_of_mem _ hd), ho.2⟩
    show red n B (less x c (x (ld n c))) (ld n b) = 0
    rcases List.mem_cons.mp hb with rfl | hb
    · rw [keep B _ _ fun d hd => (ho.1 d hd).2]
      have := (h.lds b (List.mem_cons_self ..)).one
      simp only [less]; rw [this]; grind
    · exact ih _ hB b hb
theorem grow_bas {n : Nat} {B : List Vc} (x : Vc) (h : Bas n B) : Bas n (grow n B x) := by
  unfold grow
  cases e : lead n (red n B x) with
  | none => exact h
  | some l =>
    obtain ⟨h1, h2, h3⟩ := lead_some e
    generalize hr : red n B x = r at *
    have r0 : ∀ b ∈ B, r (ld n b) = 0 := fun b hb => by rw [← hr]; exact red_zero x h b hb
    have u0 : ∀ j, r j = 0 → unit r l j = 0 := fun j hj => by simp only [unit]; rw [hj]; grind
    have u1 : unit r l l = 1 := by simp only [unit]; grind
    have hu := Ld.of (n := n) (b := unit r l) h1 u1 fun j hj => u0 j (h3 j hj)
    have hb : ∀ b ∈ B, Ld n (less b (unit r l) (b l)) ∧ ld n (less b (unit r l) (b l)) = ld n b := fun b hb => by
      have hl := h.lds b hb
      have q := u0 _ (r0 b hb)
      refine Ld.of hl.lt ?_ fun j hj => ?_
      · simp only [less]; rw [q, hl.one]; grind
      · simp only [less]
        rw [hl.lo j hj]
        by_cases c : b l = 0
        · rw [c]; grind
        · have : ¬ l < ld n b := fun z => c (hl.lo l z)
          rw [u0 j (h3 j (by omega))]; grind
    refine ⟨fun b hb' => ?_, ?_⟩
    · rcases List.mem_append.mp hb' with hm | hm
      · obtain ⟨c, hc, rfl⟩ := List.mem_map.mp hm
        exact (hb c hc).1
      · rw [List.mem_singleton.mp hm]; exact hu.1
    · refine List.pairwise_append.mpr ⟨?_, List.pairwise_singleton _ _, fun b hb' c hc => ?_⟩
      · rw [List.pairwise_map]
        refine List.Pairwise.imp_of_mem (fun {b c} hb' hc' hbc => ?_) h.off
        rw [(hb b hb').2, (hb c hc').2]
        simp only [less]
        rw [u0 _ (r0 c hc'), u0 _ (r0 b hb'), hbc.1, hbc.2]
        constructor <;> grind
      · obtain ⟨d, hd, rfl⟩ := List.mem_map.mp hb'
        rw [List.mem_singleton.mp hc, hu.2, (hb d hd).2]
        refine ⟨?_, u0 _ (r0 d hd)⟩
        simp only [less]; rw [u1]; grind
/-! ### what rows put together -/
/-- x is put together from the rows -/
def Sp (n : Nat) : List Vc → Vc → Prop
  | [], x => ∀ i, i < n → x i = 0
  | b :: B, x => ∃ c : Rat, Sp n B (less x b c)
theorem Sp.congr {n : Nat} : ∀ {B : List Vc} {x y : Vc}, Sp n B x → (∀ i, i < n → x i = y i) → Sp n B y
  | [], _, _, h, e => fun i hi => by rw [← e i hi]; exact h i hi
  | b :: B, _, _, ⟨c, h⟩, e => ⟨c, h.congr fun i hi => by simp only [less]; rw [e i hi]⟩
theorem Sp.add {n : Nat} : ∀ {B : List Vc} {x y : Vc}, Sp n B x → Sp n B y → Sp n B fun i => x i + y i
  | [], _, _, h, k => fun i hi => by
    have := h i hi
    have := k i hi
    grind
  | b :: B, _, _, ⟨c, h⟩, ⟨d, k⟩ => ⟨c + d, (h.add k).congr fun i _ => by simp only [less]; grind⟩
theorem Sp.mul {n : Nat} (s : Rat) : ∀ {B : List Vc} {x : Vc}, Sp n B x → Sp n B fun i => s * x i
  | [], _, h => fun i hi => by
    have := h i hi
    grind
  | b :: B, _, ⟨c, h⟩ => ⟨s * c, (h.mul s).congr fun i _ => by simp only [less]; grind⟩
theorem Sp.less {n : Nat} {B : List Vc} {x y : Vc} (h : Sp n B x) (k : Sp n B y) (c : Rat) : Sp n B (less x y c) := (h.add (k.mul (-c))).congr fun i _ => by simp only [Rz.less]; grind
theorem Sp.zero {n : Nat} : ∀ {B : List Vc} {x : Vc}, (∀ i, i < n → x i = 0) → Sp n B x
  | [], _, h => h
  | b :: B, _, h => ⟨0, Sp.zero fun i hi => by
    have := h i hi
    simp only [Rz.less]; grind⟩
theorem Sp.cons {n : Nat} {B : List Vc} {x : Vc} (b : Vc) (h : Sp n B x) : Sp n (b :: B) x := ⟨0, h.congr fun i _ => by simp only [Rz.less]; grind⟩
theorem Sp.mem {n : Nat} : ∀ {B : List Vc} {b : Vc}, b ∈ B → Sp n B b
  | c :: B, b, h => by
    rcases List.mem_cons.mp h with rfl | h
    · exact ⟨1, Sp.zero fun i _ => by simp only [Rz.less]; grind⟩
    · exact (Sp.mem h).cons c
theorem Sp.trans {n : Nat} {A : List Vc} : ∀ {B : List Vc} {x : Vc}, Sp n B x → (∀ b ∈ B, Sp n A b) → Sp n A x
  | [], _, h, _ => Sp.zero h
  | b :: B, x, ⟨c, h⟩, k => by
    have h1 := h.trans fun d hd => k d (List.mem_cons_of_mem _ hd)
    exact (h1.add ((k b (List.mem_cons_self ..)).mul c)).congr fun i _ => by simp only [Rz.less]; grind
theorem Sp.sub {n : Nat} {A B : List Vc} {x : Vc} (h : Sp n B x) (k : ∀ b ∈ B, b ∈ A) : Sp n A x := h.trans fun b hb => Sp.mem (k b hb)
/-- what a row loses by a basis -/
theorem red_sp {n : Nat} : ∀ (B : List Vc) (x : Vc), Sp n B fun i => x i - red n B x i
  | [], x => fun i _ => by show x i - x i = 0; grind
  | b :: B, x => by
    have h := red_sp (n := n) B (less x b (x (ld n b)))
    refine ⟨x (ld n b), h.congr fun i _ => ?_⟩
    show x i - x (ld n b) * b i - red n B (less x b (x (ld n b))) i = x i - red n B (less x b (x (ld n b))) i - x (ld n b) * b i
    grind
/-- a row that a basis puts together is reduced to nothing -/
theorem sp_red {n : Nat} {B : List Vc} {x : Vc} (h : Bas n B) (k : Sp n B x) : ∀ i, i < n → red n B x i = 0 := by
  have hr : Sp n B (red n B x) := ((k.add ((red_sp B x).mul (-1))).congr fun i _ => by grind)
  have hz := fun b hb => red_zero x h b hb
  -- a vector of the span that is 0 at all leads is 0
  have key : ∀ (B : List Vc) (y : Vc), Bas n B → Sp n B y → (∀ b ∈ B, y (ld n b) = 0) → ∀ i, i < n → y i = 0 := by
    intro B
    induction B with
    | nil => intro y _ h _; exact h
    | cons b B ih =>
      intro y hb ⟨c, hs⟩ hz
      have ho := List.pairwise_cons.mp hb.off
      have hB : Bas n B := ⟨fun d hd => hb.lds d (List.mem_cons_of_mem _ hd), ho.2⟩
      have h0 : ∀ d ∈ B, less y b c (ld n d) = 0 := fun d hd => by
        simp only [less]; rw [hz d (List.mem_cons_of_mem _ hd), (ho.1 d hd).1]; grind
      have z := ih _ hB hs h0
      have l := hb.lds b (List.mem_cons_self ..)
      have z1 := z _ l.lt
      simp only [less] at z1
      rw [hz b (List.mem_cons_self ..), l.one] at z1
      have c0 : c = 0 := by grind
      intro i hi
      have := z i hi
      simp only [less] at this
      rw [c0] at this; grind
  exact key B _ h hr hz
theorem grow_none {n : Nat} {B : List Vc} {x : Vc} (h : Bas n B) (k : Sp n B x) : grow n B x = B := by
  unfold grow
  rw [lead_zero (sp_red h k)]
theorem grow_len {n : Nat} {B : List Vc} {x : Vc} (k : ¬ Sp n B x) : (grow n B x).length = B.length + 1 := by
  unfold grow
  cases e : lead n (red n B x) with
  | none =>
    refine absurd ?_ k
    exact (red_sp B x).congr fun i hi => by rw [lead_none e i hi]; grind
  | some l => simp
/-- all rows that were put in are put together by the basis, and the basis by them -/
theorem grow_sp {n : Nat} {B : List Vc} {x : Vc} : ∀ {y : Vc}, Sp n (x :: B) y → Sp n (grow n B x) y := by
  intro y h
  have hrs := red_sp (n := n) B x
  unfold grow
  cases e : lead n (red n B x) with
  | none =>
    refine h.trans fun b hb => ?_
    rcases List.mem_cons.mp hb with rfl | hb
    · exact hrs.congr fun i hi => by rw [lead_none e i hi]; grind
    · exact Sp.mem hb
  | some l =>
    obtain ⟨h1, h2, h3⟩ := lead_some e
    generalize hr : red n B x = r at *
    show Sp n (B.map (fun b => less b (unit r l) (b l)) ++ [unit r l]) y
    have mu : Sp n (B.map (fun b => less b (unit r l) (b l)) ++ [unit r l]) (unit r l) := Sp.mem (List.mem_append_right _ (List.mem_singleton.mpr rfl))
    have mb : ∀ b ∈ B, Sp n (B.map (fun b => less b (unit r l) (b l)) ++ [unit r l]) b := fun b hb => by
      have m1 : Sp n (B.map (fun b => less b (unit r l) (b l)) ++ [unit r l]) (less b (unit r l) (b l)) := Sp.mem (List.mem_append_left _ (List.mem_map.mpr ⟨b, hb, rfl⟩))
      exact (m1.add (mu.mul (b l))).congr fun i _ => by simp only [less]; grind
    refine h.trans fun b hb => ?_
    rcases List.mem_cons.mp hb with rfl | hb
    · have m2 := hrs.trans mb
      exact (m2.add (mu.mul (r l))).congr fun i _ => by simp only [unit]; grind
    · exact mb b hb
theorem sp_grow {n : Nat} {B : List Vc} {x : Vc} : ∀ {y : Vc}, Sp n (grow n B x) y → Sp n (x :: B) y := by
  intro y h
  have hrs := red_sp (n := n) B x
  unfold grow at h
  cases e : lead n (red n B x) with
  | none => rw [e] at h; exact h.cons x
  | some l =>
    rw [e] at h
    obtain ⟨h1, h2, h3⟩ := lead_some e
    generalize hr : red n B x = r at *
    have h : Sp n (B.map (fun b => less b (unit r l) (b l)) ++ [unit r l]) y := h
    have mr : Sp n (x :: B) r := (((Sp.mem (List.mem_cons_self ..) : Sp n (x :: B) x)).add ((hrs.cons x).mul (-1))).congr fun i _ => by grind
    have mu : Sp n (x :: B) (unit r l) := (mr.mul (1 / r l)).congr fun i _ => by simp only [unit]; grind
    refine h.trans fun b hb => ?_
    rcases List.mem_append.mp hb with hb | hb
    · obtain ⟨c, hc, rfl⟩ := List.mem_map.mp hb
      exact (Sp.mem (List.mem_cons_of_mem _ hc)).less mu _
    · rw [List.mem_singleton.mp hb]; exact mu
/-- a basis of rows -/
def basis (n : Nat) (R : List Vc) : List Vc := R.foldl (grow n) []
theorem basis_snoc (n : Nat) (R : List Vc) (x : Vc) : basis n (R ++ [x]) = grow n (basis n R) x := by unfold basis; rw [List.foldl_append]; rfl
theorem list_rev_ind {α : Type} {P : List α → Prop} (h0 : P []) (h1 : ∀ l a, P l → P (l ++ [a])) : ∀ l, P l := by
  intro l
  have : ∀ m : List α, P m.reverse := fun m => by
    induction m with
    | nil => exact h0
    | cons a m ih => rw [List.reverse_cons]; exact h1 _ _ ih
  have := this l.reverse
  rwa [List.reverse_reverse] at this
theorem basis_bas (n : Nat) : ∀ R : List Vc, Bas n (basis n R) :=
  list_rev_ind (bas_nil n) fun l a h => by rw [basis_snoc]; exact grow_bas a h
theorem basis_sp (n : Nat) : ∀ (R : List Vc) (y : Vc), Sp n (basis n R) y ↔ Sp n R y :=
  list_rev_ind (fun y => Iff.rfl) fun l a ih y => by
    rw [basis_snoc]
    constructor
    · intro h
      refine (sp_grow h).trans fun b hb => ?_
      rcases List.mem_cons.mp hb with rfl | hb
      · exact Sp.mem (List.mem_append_right _ (List.mem_singleton.mpr rfl))
      · exact ((ih b).mp (Sp.mem hb)).sub fun c hc => List.mem_append_left _ hc
    · intro h
      refine grow_sp (h.trans fun b hb => ?_)
      rcases List.mem_append.mp hb with hb | hb
      · exact (((ih b).mpr (Sp.mem hb))).cons a
      · rw [List.mem_singleton.mp hb]; exact Sp.mem (List.mem_cons_self ..)
end Rz
/-! RzG2 -/
set_option linter.all false
set_option maxRecDepth 100000
set_option exponentiation.threshold 20000
namespace Rz
theorem sumN_single {m : Nat} {x : Vc} {l : Nat} (hl : l < m) (h : ∀ c, c < m → c ≠ l → x c = 0) : sumN m x = x l := by
  induction m with
  | zero => omega
  | succ m ih =>
    simp only [sumN]
    by_cases e : l = m
    · subst e
      have : sumN l x = 0 := by
        rw [← sumN_zero l]
        exact sumN_congr fun i hi => h i (by omega) (by omega)
      rw [this]; grind
    · rw [ih (by omega) fun c hc hne => h c (by omega) hne, h m (by omega) (by omega)]; grind
/-! ### equations -/
def fillF (m : Nat) : List Vc → Vc → Option Vc
  | [], f => some f
  | b :: B, f => if ld (m + 1) b = m then none else fillF m B (up f (ld (m + 1) b) (b m))
theorem Bas.ne {n : Nat} {b : Vc} {B : List Vc} (h : Bas n (b :: B)) : ∀ c ∈ B, ld n c ≠ ld n b := fun c hc e => by
  have ho := (List.pairwise_cons.mp h.off).1 c hc
  have := (h.lds b (List.mem_cons_self ..)).one
  rw [← e, ho.1] at this
  exact absurd this (by decide)
theorem Bas.tail {n : Nat} {b : Vc} {B : List Vc} (h : Bas n (b :: B)) : Bas n B := ⟨fun d hd => h.lds d (List.mem_cons_of_mem _ hd), (List.pairwise_cons.mp h.off).2⟩
theorem fillF_some {m : Nat} : ∀ {B : List Vc} {f0 f : Vc}, Bas (m + 1) B → fillF m B f0 = some f → (∀ b ∈ B, ld (m + 1) b < m ∧ f (ld (m + 1) b) = b m) ∧ ∀ j, (∀ b ∈ B, ld (m + 1) b ≠ j) → f j = f0 j
  | [], f0, f, _, h => by
    injection h with h
    subst h
    exact ⟨fun b hb => (List.not_mem_nil hb).elim, fun j _ => rfl⟩
  | b :: B, f0, f, hB, h => by
    unfold fillF at h
    split at h
    · cases h
    · rename_i hne
      obtain ⟨h1, h2⟩ := fillF_some hB.tail h
      have hl := (hB.lds b (List.mem_cons_self ..)).lt
      refine ⟨fun c hc => ?_, fun j hj => ?_⟩
      · rcases List.mem_cons.mp hc with rfl | hc
        · refine ⟨by omega, ?_⟩
          rw [h2 _ fun d hd => hB.ne d hd]
          simp [up]
        · exact h1 c hc
      · rw [h2 j fun d hd => hj d (List.mem_cons_of_mem _ hd)]
        have := hj b (List.mem_cons_self ..)
        simp only [up]; rw [if_neg fun e => this e.symm]
theorem fillF_none {m : Nat} : ∀ {B : List Vc} {f0 : Vc}, fillF m B f0 = none → ∃ b ∈ B, ld (m + 1) b = m
  | [], _, h => by cases h
  | b :: B, f0, h => by
    unfold fillF at h
    split at h
    · rename_i e
      exact ⟨b, List.mem_cons_self .., e⟩
    · obtain ⟨c, hc, e⟩ := fillF_none h
      exact ⟨c, List.mem_cons_of_mem _ hc, e⟩
theorem off_of {n : Nat} : ∀ {B : List Vc}, Bas n B → ∀ b ∈ B, ∀ c ∈ B, ld n b ≠ ld n c → b (ld n c) = 0
  | d :: B, h, b, hb, c, hc, hne => by
    have ho := List.pairwise_cons.mp h.off
    rcases List.mem_cons.mp hb with eb | hb'
    · rcases List.mem_cons.mp hc with ec | hc'
      · exact absurd (by rw [eb, ec]) hne
      · rw [eb]; exact (ho.1 c hc').1
    · rcases List.mem_cons.mp hc with ec | hc'
      · rw [ec]; exact (ho.1 b hb').2
      · exact off_of h.tail b hb' c hc' hne
/-- y holds of the numbers s -/
def Holds (m : Nat) (s y : Vc) : Prop := sumN m (fun c => y c * s c) = y m
theorem holds_sp {m : Nat} {s : Vc} : ∀ {B : List Vc} {y : Vc}, (∀ b ∈ B, Holds m s b) → Sp (m + 1) B y → Holds m s y
  | [], y, _, h => by
    unfold Holds
    rw [h m (by omega), ← sumN_zero m]
    exact sumN_congr fun i hi => by rw [h i (by omega)]; grind
  | b :: B, y, hb, ⟨c, h⟩ => by
    have h1 := holds_sp (fun d hd => hb d (List.mem_cons_of_mem _ hd)) h
    have h2 := hb b (List.mem_cons_self ..)
    unfold Holds at *
    have e : (sumN m fun i => y i * s i) = (sumN m fun i => less y b c i * s i) + c * sumN m fun i => b i * s i := by
      rw [← sumN_mull, ← sumN_add]
      exact sumN_congr fun i _ => by simp only [less]; grind
    rw [e, h1, h2]; simp only [less]; grind
theorem fill_right {m : Nat} {B : List Vc} {f : Vc} (hB : Bas (m + 1) B) (h : fillF m B (fun _ => 0) = some f) : ∀ y, Sp (m + 1) B y → Holds m f y := by
  obtain ⟨h1, h2⟩ := fillF_some hB h
  intro y hy
  refine holds_sp (fun b hb => ?_) hy
  unfold Holds
  obtain ⟨l1, l2⟩ := h1 b hb
  rw [sumN_single l1 fun c hc hne => ?_, l2, (hB.lds b hb).one]
  · grind
  · by_cases k : ∃ d ∈ B, ld (m + 1) d = c
    · obtain ⟨d, hd, rfl⟩ := k
      rw [off_of hB b hb d hd fun e => hne e.symm]; grind
    · have : f c = 0 := h2 c fun d hd e => k ⟨d, hd, e⟩
      rw [this]; grind
def solve (m : Nat) (R : List Vc) : Option Vc := fillF m (basis (m + 1) R) fun _ => 0
theorem solve_some {m : Nat} {R : List Vc} {f : Vc} (h : solve m R = some f) : ∀ y ∈ R, Holds m f y := fun y hy =>
  fill_right (basis_bas (m + 1) R) h y ((basis_sp (m + 1) R y).mpr (Sp.mem hy))
/-! ### sizes: a row is integers over one number -/
structure Rb (n a : Nat) (x : Vc) : Prop where
  ex : ∃ D : Nat, 0 < D ∧ D ≤ 2 ^ a ∧ ∀ c, c < n → ∃ z : Int, x c * (D : Rat) = (z : Rat) ∧ z.natAbs ≤ 2 ^ a
theorem Rb.mono {n a b : Nat} {x : Vc} (h : Rb n a x) (hab : a ≤ b) : Rb n b x := by
  obtain ⟨D, h1, h2, h3⟩ := h.ex
  have p : (2 : Nat) ^ a ≤ 2 ^ b := Nat.pow_le_pow_right (by decide) hab
  exact ⟨D, h1, by omega, fun c hc => by
    obtain ⟨z, e, hz⟩ := h3 c hc
    exact ⟨z, e, by omega⟩⟩
theorem Rb.congr {n a : Nat} {x y : Vc} (h : Rb n a x) (e : ∀ c, c < n → x c = y c) : Rb n a y := by
  obtain ⟨D, h1, h2, h3⟩ := h.ex
  exact ⟨D, h1, h2, fun c hc => by rw [← e c hc]; exact h3 c hc⟩
theorem Rb.sm {n a : Nat} {x : Vc} (h : Rb n a x) (ha : a ≤ 6600) {c : Nat} (hc : c < n) : Sm (x c) := by
  obtain ⟨D, h1, h2, h3⟩ := h.ex
  obtain ⟨z, e, hz⟩ := h3 c hc
  have p : (2 : Nat) ^ a ≤ 2 ^ 6600 := Nat.pow_le_pow_right (by decide) ha
  have q : (2 : Nat) ^ 6600 < BB := by rw [BB_eq]; exact Nat.pow_lt_pow_right (by decide) (by decide)
  have iz : Iz D (x c) := ⟨z, e⟩
  have d := Nat.le_of_dvd h1 iz.den
  refine ⟨?_, by omega⟩
  have e2 : ((x c).num * (D : Int) : Int) = z * ((x c).den : Int) := by
    have h1 := num_eq (x c)
    have : (((x c).num * (D : Int) : Int) : Rat) = ((z * ((x c).den : Int) : Int) : Rat) := by
      push_cast; rw [h1, ← e]; grind
    exact Rat.intCast_inj.mp this
  have e3 : (x c).num.natAbs * D = z.natAbs * (x c).den := by
    have := congrArg Int.natAbs e2
    rw [Int.natAbs_mul, Int.natAbs_mul] at this
    simpa using this
  have : (x c).num.natAbs * D ≤ z.natAbs * D := by rw [e3]; exact Nat.mul_le_mul_left _ d
  have := Nat.le_of_mul_le_mul_right this h1
  omega
theorem Rb.less {n a b : Nat} {x y : Vc} (hx : Rb n a x) (hy : Rb n b y) {l : Nat} (hl : l < n) : Rb n (a + b + 1) (less x y (x l)) := by
  obtain ⟨D, d1, d2, h3⟩ := hx.ex
  obtain ⟨E, e1, e2, k3⟩ := hy.ex
  obtain ⟨w, we, hw⟩ := h3 l hl
  have p : (2 : Nat) ^ (a + b + 1) = 2 ^ a * 2 ^ b * 2 := by rw [Nat.pow_add, Nat.pow_add]
  have m : D * E ≤ 2 ^ a * 2 ^ b := Nat.mul_le_mul d2 e2
  refine ⟨D * E, Nat.mul_pos d1 e1, by omega, fun c hc => ?_⟩
  obtain ⟨z, ze, hz⟩ := h3 c hc
  obtain ⟨v, ve, hv⟩ := k3 c hc
  refine ⟨z * E - w * v, ?_, ?_⟩
  · simp only [Rz.less]; push_cast; rw [← ze, ← we, ← ve]; grind
  · have m1 : (z * (E : Int)).natAbs ≤ 2 ^ a * 2 ^ b := by rw [Int.natAbs_mul]; exact Nat.mul_le_mul hz (by simpa using e2)
    have m2 : (w * v).natAbs ≤ 2 ^ a * 2 ^ b := by rw [Int.natAbs_mul]; exact Nat.mul_le_mul hw hv
    omega
theorem Rb.lessP {n a b : Nat} {x y : Vc} (hx : Rb n a x) (hy : Rb n b y) {l : Nat} (hl : l < n) : Rb n (a + b) (fun i => x l * y i) := by
  obtain ⟨D, d1, d2, h3⟩ := hx.ex
  obtain ⟨E, e1, e2, k3⟩ := hy.ex
  obtain ⟨w, we, hw⟩ := h3 l hl
  have p : (2 : Nat) ^ (a + b) = 2 ^ a * 2 ^ b := by rw [Nat.pow_add]
  have m : D * E ≤ 2 ^ a * 2 ^ b := Nat.mul_le_mul d2 e2
  refine ⟨D * E, Nat.mul_pos d1 e1, by omega, fun c hc => ?_⟩
  obtain ⟨v, ve, hv⟩ := k3 c hc
  refine ⟨w * v, ?_, ?_⟩
  · push_cast; rw [← we, ← ve]; grind
  · have m2 : (w * v).natAbs ≤ 2 ^ a * 2 ^ b := by rw [Int.natAbs_mul]; exact Nat.mul_le_mul hw hv
    omega
theorem Rb.unit {n a : Nat} {x : Vc} (hx : Rb n a x) {l : Nat} (hl : l < n) (h0 : x l ≠ 0) : Rb n a (unit x l) := by
  obtain ⟨D, d1, d2, h3⟩ := hx.ex
  obtain ⟨w, we, hw⟩ := h3 l hl
  have D0 : (D : Rat) ≠ 0 := by
    have : D ≠ 0 := by omega
    exact_mod_cast this
  have w0 : w ≠ 0 := fun e => by
    rw [e] at we
    have : x l * (D : Rat) = 0 := by rw [we]; rfl
    grind
  have wr : (w : Rat) ≠ 0 := fun e => w0 (by exact_mod_cast e)
  refine ⟨w.natAbs, by omega, hw, fun c hc => ?_⟩
  obtain ⟨z, ze, hz⟩ := h3 c hc
  by_cases s : 0 ≤ w
  · refine ⟨z, ?_, hz⟩
    have : ((w.natAbs : Nat) : Rat) = (w : Rat) := by
      have : ((w.natAbs : Nat) : Int) = w := by omega
      rw [← this]; push_cast; rfl
    rw [this, ← ze, ← we]; simp only [Rz.unit]; grind
  · refine ⟨-z, ?_, by omega⟩
    have : ((w.natAbs : Nat) : Rat) = -(w : Rat) := by
      have : ((w.natAbs : Nat) : Int) = -w := by omega
      have h : (((w.natAbs : Nat) : Int) : Rat) = ((-w : Int) : Rat) := by rw [this]
      push_cast at h ⊢; exact h
    rw [this]; push_cast; rw [← ze, ← we]; simp only [Rz.unit]; grind
theorem red_rb {n b : Nat} : ∀ {B : List Vc} {x : Vc} {a : Nat}, (∀ c ∈ B, ld n c < n ∧ Rb n b c) → Rb n a x → Rb n (a + B.length * (b + 1)) (red n B x)
  | [], x, a, _, h => by simpa [red] using h
  | c :: B, x, a, hB, h => by
    have h1 := h.less (hB c (List.mem_cons_self ..)).2 (hB c (List.mem_cons_self ..)).1
    have h2 := red_rb (fun d hd => hB d (List.mem_cons_of_mem _ hd)) h1
    have : a + (c :: B).length * (b + 1) = a + b + 1 + B.length * (b + 1) := by rw [List.length_cons, Nat.succ_mul]; omega
    rw [this]; exact h2
/-! ### as many leads as columns -/
theorem cover {n : Nat} : ∀ {L : List Nat}, L.Nodup → (∀ x ∈ L, x < n) → n ≤ L.length → L.length = n ∧ ∀ j, j < n → j ∈ L := by
  induction n with
  | zero =>
    intro L _ h _
    cases L with
    | nil => exact ⟨rfl, fun j hj => by omega⟩
    | cons a L => have := h a (List.mem_cons_self ..); omega
  | succ n ih =>
    intro L hd h hl
    by_cases c : n ∈ L
    · have h1 : (L.erase n).Nodup := hd.erase n
      have h2 : ∀ x ∈ L.erase n, x < n := fun x hx => by
        have := (List.Nodup.mem_erase_iff hd).mp hx
        have := h x this.2
        omega
      have h3 : (L.erase n).length = L.length - 1 := List.length_erase_of_mem c
      obtain ⟨e, k⟩ := ih h1 h2 (by omega)
      have hp : 0 < L.length := List.length_pos_of_mem c
      refine ⟨by omega, fun j hj => ?_⟩
      by_cases e2 : j = n
      · rw [e2]; exact c
      · exact List.mem_of_mem_erase (k j (by omega))
    · have h2 : ∀ x ∈ L, x < n := fun x hx => by
        have := h x hx
        have : x ≠ n := fun e => c (e ▸ hx)
        omega
      -- too many below n
      have h4 := ih hd h2 (by omega)
      omega
theorem Bas.nodup {n : Nat} : ∀ {B : List Vc}, Bas n B → (B.map (ld n)).Nodup
  | [], _ => List.nodup_nil
  | b :: B, h => by
    rw [List.map_cons, List.nodup_cons]
    refine ⟨fun hm => ?_, h.tail.nodup⟩
    obtain ⟨c, hc, e⟩ := List.mem_map.mp hm
    exact h.ne c hc e
theorem Bas.cov {n : Nat} {B : List Vc} (h : Bas n B) (hl : n ≤ B.length) : B.length = n ∧ ∀ j, j < n → ∃ b ∈ B, ld n b = j := by
  obtain ⟨e, k⟩ := cover h.nodup (fun x hx => by
    obtain ⟨b, hb, rfl⟩ := List.mem_map.mp hx
    exact (h.lds b hb).lt) (by simpa using hl)
  refine ⟨by simpa using e, fun j hj => ?_⟩
  obtain ⟨b, hb, e⟩ := List.mem_map.mp (k j hj)
  exact ⟨b, hb, e⟩
theorem Bas.len {n : Nat} {B : List Vc} (h : Bas n B) : B.length ≤ n := by
  by_cases c : n ≤ B.length
  · have := (h.cov c).1; omega
  · omega
/-- a full basis is made of units -/
theorem Bas.full {n : Nat} {B : List Vc} (h : Bas n B) (hl : B.length = n) : ∀ b ∈ B, Rb n 0 b := fun b hb => by
  refine ⟨1, by decide, by decide, fun c hc => ?_⟩
  obtain ⟨d, hd, rfl⟩ := (h.cov (by omega)).2 c hc
  by_cases e : ld n b = ld n d
  · refine ⟨1, ?_, by decide⟩
    rw [← e, (h.lds b hb).one]; simp
  · refine ⟨0, ?_, by decide⟩
    rw [off_of h b hb d hd e]; simp
/-! ### sizes of a basis -/
/-- how large the rows of a basis of k rows are -/
def bd (e : Nat) : Nat → Nat
  | 0 => 0
  | 1 => e
  | 2 => 3 * e + 2
  | _ => 10 * e + 9
structure BB3 (e n : Nat) (B : List Vc) : Prop where
  bas : Bas n B
  rb : ∀ b ∈ B, Rb n (bd e B.length) b
theorem bb3_nil (e n : Nat) : BB3 e n [] := ⟨bas_nil n, fun b hb => (List.not_mem_nil hb).elim⟩
theorem BB3.red {e n : Nat} {B : List Vc} {x : Vc} (h : BB3 e n B) (hx : Rb n e x) (hl : B.length ≤ 2) : Rb n (e + B.length * (bd e B.length + 1)) (red n B x) :=
  red_rb (fun c hc => ⟨(h.bas.lds c hc).lt, h.rb c hc⟩) hx
theorem BB3.grow {e n : Nat} {B : List Vc} {x : Vc} (h : BB3 e n B) (hx : Rb n e x) (hl : B.length ≤ 2) : BB3 e n (grow n B x) := by
  refine ⟨grow_bas x h.bas, ?_⟩
  have hr := h.red hx hl
  unfold Rz.grow
  cases el : lead n (Rz.red n B x) with
  | none => exact h.rb
  | some l =>
    obtain ⟨h1, h2, h3⟩ := lead_some el
    have hu := hr.unit h1 h2
    intro b hb
    have hlen : (B.map (fun b => Rz.less b (Rz.unit (Rz.red n B x) l) (b l)) ++ [Rz.unit (Rz.red n B x) l]).length = B.length + 1 := by simp
    show Rb n (bd e (B.map (fun b => Rz.less b (Rz.unit (Rz.red n B x) l) (b l)) ++ [Rz.unit (Rz.red n B x) l]).length) b
    rw [hlen]
    have hk : B.length = 0 ∨ B.length = 1 ∨ B.length = 2 := by omega
    rcases List.mem_append.mp hb with hm | hm
    · obtain ⟨c, hc, rfl⟩ := List.mem_map.mp hm
      have q := (h.rb c hc).less hu h1
      rcases hk with k | k | k
      · have := List.length_pos_of_mem hc; omega
      · rw [k] at q ⊢; exact q.mono (by show e + (e + 1 * (e + 1)) + 1 ≤ 3 * e + 2; omega)
      · rw [k] at q ⊢; exact q.mono (by show 3 * e + 2 + (e + 2 * (3 * e + 2 + 1)) + 1 ≤ 10 * e + 9; omega)
    · rw [List.mem_singleton.mp hm]
      rcases hk with k | k | k
      · rw [k] at hu ⊢; exact hu.mono (by show e + 0 * (0 + 1) ≤ e; omega)
      · rw [k] at hu ⊢; exact hu.mono (by show e + 1 * (e + 1) ≤ 3 * e + 2; omega)
      · rw [k] at hu ⊢; exact hu.mono (by show e + 2 * (3 * e + 2 + 1) ≤ 10 * e + 9; omega)
/-- bounds that hold on, however many rows are put in -/
structure BBn (e n : Nat) (B : List Vc) : Prop where
  bb : BB3 e n B
  lt : B.length ≤ 2 ∨ B.length = n
theorem bbn_nil (e n : Nat) : BBn e n [] := ⟨bb3_nil e n, .inl (by simp)⟩
theorem BBn.red {e n : Nat} {B : List Vc} {x : Vc} (h : BBn e n B) (hx : Rb n e x) (hn : n ≤ 3) : Rb n (7 * e + 6) (red n B x) := by
  by_cases c : B.length ≤ 2
  · have q := h.bb.red hx c
    have hk : B.length = 0 ∨ B.length = 1 ∨ B.length = 2 := by omega
    rcases hk with k | k | k <;> rw [k] at q <;> refine q.mono ?_ <;> simp only [bd] <;> omega
  · have hl : B.length = n := h.lt.elim (fun z => absurd z c) id
    have q := red_rb (b := 0) (fun c hc => ⟨(h.bb.bas.lds c hc).lt, h.bb.bas.full hl c hc⟩) hx
    refine q.mono ?_
    omega
theorem BBn.grow {e n : Nat} {B : List Vc} {x : Vc} (h : BBn e n B) (hx : Rb n e x) (hn : n ≤ 3) : BBn e n (grow n B x) := by
  by_cases c : B.length ≤ 2
  · have g := h.bb.grow hx c
    refine ⟨g, ?_⟩
    have l1 := g.bas.len
    by_cases k : Sp n B x
    · rw [grow_none h.bb.bas k]; exact .inl c
    · have := grow_len k
      omega
  · have hl : B.length = n := h.lt.elim (fun z => absurd z c) id
    have z : lead n (Rz.red n B x) = none := lead_zero fun j hj => by
      obtain ⟨b, hb, rfl⟩ := (h.bb.bas.cov (by omega)).2 j hj
      exact red_zero x h.bb.bas b hb
    have : Rz.grow n B x = B := by unfold Rz.grow; rw [z]
    rw [this]; exact h
end Rz
/-! RzG3 -/
set_option linter.all false
set_option maxRecDepth 100000
set_option exponentiation.threshold 20000
namespace Rz
/-! ### elimination by the program -/
theorem forL_find' {b : Env → Gs → SR} {t : Tg} {f : Nat → D} {g : Gs} (p : Nat → Bool) (r : Nat → D) (P : Env → Prop) (N : Nat) (h : ∀ i env, i < N → P env → ∃ e1, bindT t (f i) env = some e1 ∧ ((p i = true ∧ b e1 g = .ret (r i) g) ∨ (p i = false ∧ ∃ env', (b e1 g = .nx env' g ∨ b e1 g = .cnt env' g) ∧ P env'))) : ∀ (n i : Nat) (env : Env), i + n ≤ N → P env →
    (∃ j, (List.range' i n).find? p = some j ∧ forL b t ((List.range' i n).map f) env g = .ret (r j) g) ∨ ((List.range' i n).find? p = none ∧ ∃ env', forL b t ((List.range' i n).map f) env g = .nx env' g ∧ P env')
  | 0, i, env, _, hp => .inr ⟨rfl, env, rfl, hp⟩
  | n + 1, i, env, hi, hp => by
    obtain ⟨e1, h1, h2⟩ := h i env (by omega) hp
    rw [List.range'_succ, List.map_cons, List.find?_cons]
    unfold forL
    rw [h1]
    rcases h2 with ⟨hp1, h2⟩ | ⟨hp1, env', h2, h3⟩
    · exact .inl ⟨i, by rw [hp1], by simp only [h2]⟩
    · rw [hp1]
      rcases forL_find' p r P N h n (i + 1) env' (by omega) h3 with ⟨j, k1, k2⟩ | ⟨k1, env2, k2, k3⟩
      · exact .inl ⟨j, k1, by rcases h2 with h2 | h2 <;> (simp only [h2]; exact k2)⟩
      · exact .inr ⟨k1, env2, by rcases h2 with h2 | h2 <;> (simp only [h2]; exact k2), k3⟩
theorem T_lead_of : TT i_lead_of = some d_lead_of := rfl
theorem T_less_of : TT i_less_of = some d_less_of := rfl
theorem T_with_row : TT i_with_row = some d_with_row := rfl
theorem T_solved : TT i_solved = some d_solved := rfl
def lrow (n : Nat) (x : Nat → Rat) : D := lf n fun i => fr (x i)
theorem num0 (q : Rat) : (q.num = 0) = (q = 0) := propext Rat.num_eq_zero
def ldD : Option Nat → D
  | some l => .int (l : Int)
  | none => .non
theorem ev_lead_of (k n : Nat) (x : Vc) (d : D) (g : Gs) (hd : Sq d n fun i => fr (x i)) : evF TT (k + 1) i_lead_of [d] g = .ok (ldD (lead n x)) g := by
  rw [evF_s T_lead_of, runF_eq rfl]
  show outR (evSs (evF TT k) b_lead_of [.p d, .u, .u] g) = _
  have q := forL_find' (b := bodyOf (evF TT k) [.ite (.op .ne (.ix (.var 2) (.lit (.int 0))) (.lit (.int 0))) [.ret (.var 1)] []]) (t := .tp [(.nm 1), (.nm 2)]) (f := fun (i : Nat) => D.tup [.int (i : Int), fr (x i)]) (g := g) (fun i => decide (x i ≠ 0)) (fun i => .int (i : Int)) (fun e => ∃ y z, e = [.p d, y, z]) n (fun i env hi ⟨y, z, he⟩ => by
    subst he
    refine ⟨[.p d, .p (.int (i : Int)), .p (fr (x i))], rfl, ?_⟩
    by_cases c : x i = 0
    · refine .inr ⟨by simp [c], [.p d, .p (.int (i : Int)), .p (fr (x i))], .inl ?_, _, _, rfl⟩
      have : (x i).num = 0 := by rw [c]; rfl
      simp only [bodyOf_eq, evSs_cons, evSs_nil, evS_ite, evE_op, evE_ix, evE_var, evE_lit, getS_z, getS_s, slV_p, bind_ok, ixq0, of_some, op_ne_i, this, decide_true, Bool.not_true, to_ok, iteD_bl, Bool.false_eq_true, if_false, thenS_nx]
    · refine .inl ⟨by simp [c], ?_⟩
      have : ¬ (x i).num = 0 := by rw [num0]; exact c
      simp only [bodyOf_eq, evSs_cons, evSs_nil, evS_ite, evE_op, evE_ix, evE_var, evE_lit, getS_z, getS_s, slV_p, bind_ok, ixq0, of_some, op_ne_i, this, decide_false, Bool.not_false, to_ok, iteD_bl, if_true, evS_ret, thenS_ret]) n 0 [.p d, .u, .u] (by omega) ⟨_, _, rfl⟩
  rw [← List.range_eq_range'] at q
  rcases q with ⟨j, q1, q2⟩ | ⟨q1, env', q2, y, z, he⟩
  · have : lead n x = some j := q1
    rw [this]
    simp only [b_lead_of, evSs_cons, evSs_nil, evS_for, evEs_cons, evEs_nil, evE_var, getS_z, getS_s, slV_p, bind_ok, fork_ok, items_enum hd, forD_some, q2, thenS_ret, outR_ret]
    rfl
  · have : lead n x = none := q1
    rw [this]
    subst he
    simp only [b_lead_of, evSs_cons, evSs_nil, evS_for, evEs_cons, evEs_nil, evE_var, getS_z, getS_s, slV_p, bind_ok, fork_ok, items_enum hd, forD_some, q2, thenS_nx, evS_ret, evE_lit, to_ok, thenS_ret, outR_ret]
    rfl
/-- what a row less another one asks -/
structure LsA (n : Nat) (x y : Vc) (c : Rat) : Prop where
  xs : ∀ i, i < n → Sm (x i)
  ys : ∀ i, i < n → Sm (y i)
  cs : Sm c
  p : ∀ i, i < n → Sm (c * y i)
theorem lsA_of {n a b : Nat} {x y : Vc} {l : Nat} (hx : Rb n a x) (hy : Rb n b y) (hl : l < n) (h : a + b ≤ 6600) : LsA n x y (x l) :=
  ⟨fun i hi => hx.sm (by omega) hi, fun i hi => hy.sm (by omega) hi, hx.sm (by omega) hl, fun i hi => (hx.lessP hy hl).sm h hi⟩
theorem ev_less_of (k n : Nat) (x y : Vc) (c : Rat) (g : Gs) (hn : n ≤ 1000) (h : LsA n x y c) : evF TT (k + 4) i_less_of [row n x, row n y, fr c] g = .ok (row n (less x y c)) g := by
  rw [evF_s T_less_of, runF_eq rfl]
  show outR (evSs (evF TT (k + 3)) b_less_of [.p (row n x), .p (row n y), .p (fr c), .u, .u] g) = _
  have q : compD (evF TT (k + 3)) (.call i_minus [.var 3, .call i_times [.var 2, .var 4]]) (.tp [.nm 3, .nm 4]) [] [.p (row n x), .p (row n y), .p (fr c), .u, .u] g (some ((List.range n).map fun i => .tup [fr (x i), fr (y i)])) = .ok (lf n fun i => fr (less x y c i)) g :=
    compD_n (fun i => fr (less x y c i)) (by omega) fun i hi => ⟨[.p (row n x), .p (row n y), .p (fr c), .p (fr (x i)), .p (fr (y i))], rfl, by
      have t := ev_times k c (y i) g h.cs (h.ys i hi)
      have m := ev_minus k (x i) (c * y i) g (h.xs i hi) (h.p i hi)
      simp only [evE_call, evEs_cons, evEs_nil, evE_var, getS_z, getS_s, slV_p, bind_ok, t, m]; rfl⟩
  have z : items .zip [row n x, row n y] = some ((List.range n).map fun i => .tup [fr (x i), fr (y i)]) := items_zip (sq_tf _ _) (sq_tf _ _)
  have t : bi .tuple [lf n fun i => fr (less x y c i)] = some (row n (less x y c)) := tuple_lf _ _
  simp only [b_less_of, evSs_cons, evSs_nil, evS_ret, evE_bi, evE_comp, evEs_cons, evEs_nil, evE_var, getS_z, getS_s, slV_p, bind_ok, z, q, t, of_some, to_ok, thenS_ret, outR_ret]
/-- a basis as data -/
def basD (n : Nat) (B : List Vc) : D := .lst (B.map (row n))
theorem is_int_non (l : Nat) : op2 .is_ (.int (l : Int)) .non = some (.bl false) := rfl
theorem is_non_non : op2 .is_ .non .non = some (.bl true) := rfl
theorem ev_with_row (k n a b : Nat) (B : List Vc) (x : Vc) (g : Gs) (hn : n ≤ 1000) (hl : B.length ≤ 1000) (hB : ∀ c ∈ B, Ld n c ∧ Rb n b c) (hx : Rb n a x) (hs : a + B.length * (b + 1) + b ≤ 6600) :
    evF TT (k + 5) i_with_row [basD n B, row n x] g = .ok (basD n (grow n B x)) g := by
  rw [evF_s T_with_row, runF_eq rfl]
  show outR (evSs (evF TT (k + 4)) b_with_row [.p (basD n B), .p (row n x), .u, .u, .u, .u] g) = _
  have hB2 : ∀ c ∈ B, ld n c < n ∧ Rb n b c := fun c hc => ⟨(hB c hc).1.lt, (hB c hc).2⟩
  obtain ⟨env', g', f1, hg, hpre, y2, he⟩ := forL_l (t := .nm 2) (enc := row n) (b := bodyOf (evF TT (k + 4)) [.asg 1 (.call i_less_of [.var 1, .var 2, .ix (.var 1) (.call i_lead_of [.var 2])])]) (env := [.p (basD n B), .p (row n x), .u, .u, .u, .u]) (g := g)
    (fun pre e g' => g' = g ∧ (∀ c ∈ pre, c ∈ B) ∧ ∃ y2, e = [.p (basD n B), .p (row n (red n pre x)), y2, .u, .u, .u]) B (fun pre c e g' hc hlt ⟨hg, hpre, y2, he⟩ => by
      subst he hg
      have hr := red_rb (B := pre) (fun d hd => hB2 d (hpre d hd)) hx
      have hm : pre.length * (b + 1) ≤ B.length * (b + 1) := Nat.mul_le_mul_right _ (by omega)
      have l := ev_lead_of (k + 3) n c (row n c) g' (sq_tf _ _)
      rw [(hB c hc).1.lead] at l
      have s := ev_less_of k n (red n pre x) c (red n pre x (ld n c)) g' hn (lsA_of hr (hB c hc).2 (hB c hc).1.lt (by omega))
      have ix := ixr (n := n) (i := ld n c) (x := red n pre x) (hB c hc).1.lt g'
      refine ⟨[.p (basD n B), .p (row n (red n pre x)), .p (row n c), .u, .u, .u], rfl, [.p (basD n B), .p (row n (red n (pre ++ [c]) x)), .p (row n c), .u, .u, .u], g', .inl ?_, rfl, fun d hd => (List.mem_append.mp hd).elim (hpre d) fun z => by rw [List.mem_singleton.mp z]; exact hc, _, rfl⟩
      rw [bodyOf_eq, red_append]
      simp only [ldD] at l
      simp only [evSs_cons, evSs_nil, evS_asg, evE_call, evE_ix, evEs_cons, evEs_nil, evE_var, getS_z, getS_s, slV_p, bind_ok, l, ix, of_some, s, to_ok, setS_s, setS_z, thenS_nx]
      rfl) ⟨rfl, fun c hc => (List.not_mem_nil hc).elim, .u, rfl⟩
  subst he hg
  have hr := red_rb hB2 hx
  have l := ev_lead_of (k + 3) n (red n B x) (row n (red n B x)) g' (sq_tf _ _)
  have i1 : items .seq [basD n B] = some (B.map (row n)) := rfl
  unfold grow
  cases el : lead n (red n B x) with
  | none =>
    rw [el] at l
    simp only [ldD] at l
    simp only [b_with_row, evSs_cons, evSs_nil, evS_for, evEs_cons, evEs_nil, evE_var, getS_z, getS_s, slV_p, bind_ok, fork_ok, i1, forD_some, f1, thenS_nx, evS_asg, evE_call, l, to_ok, setS_s, setS_z, evS_ite, evE_op, evE_lit, is_non_non, of_some, iteD_bl, if_true, evS_ret, thenS_ret, outR_ret]
  | some m =>
    rw [el] at l
    simp only [ldD] at l
    obtain ⟨h1, h2, h3⟩ := lead_some el
    have hu := hr.unit h1 h2
    have ix := ixr (n := n) (i := m) (x := red n B x) h1 g'
    have i2 : items .seq [row n (red n B x)] = some ((List.range n).map fun i => fr (red n B x i)) := items_seq (sq_tf _ _)
    have c1 : compD (evF TT (k + 4)) (.call i_over [.var 5, .ix (.var 1) (.var 3)]) (.nm 5) [] [.p (basD n B), .p (row n (red n B x)), y2, .p (.int (m : Int)), .u, .u] g' (some ((List.range n).map fun i => fr (red n B x i))) = .ok (lf n fun i => fr (unit (red n B x) m i)) g' :=
      compD_n (fun i => fr (unit (red n B x) m i)) (by omega) fun i hi => ⟨[.p (basD n B), .p (row n (red n B x)), y2, .p (.int (m : Int)), .u, .p (fr (red n B x i))], rfl, by
        have o := ev_over (k + 1) (red n B x i) (red n B x m) g' (hr.sm (by omega) hi) (hr.sm (by omega) h1) h2
        simp only [evE_call, evEs_cons, evEs_nil, evE_ix, evE_var, getS_z, getS_s, slV_p, bind_ok, ix, of_some, o]; rfl⟩
    have t : bi .tuple [lf n fun i => fr (unit (red n B x) m i)] = some (row n (unit (red n B x) m)) := tuple_lf _ _
    have c2 : compD (evF TT (k + 4)) (.call i_less_of [.var 2, .var 4, .ix (.var 2) (.var 3)]) (.nm 2) [] [.p (basD n B), .p (row n (red n B x)), y2, .p (.int (m : Int)), .p (row n (unit (red n B x) m)), .u] g' (some (B.map (row n))) = .ok (.lst (B.map fun c => row n (less c (unit (red n B x) m) (c m)))) g' :=
      compD_l B (row n) (fun c => row n (less c (unit (red n B x) m) (c m))) (by omega) fun c hc => ⟨[.p (basD n B), .p (row n (red n B x)), .p (row n c), .p (.int (m : Int)), .p (row n (unit (red n B x) m)), .u], rfl, by
        have ixc := ixr (n := n) (i := m) (x := c) h1 g'
        have s := ev_less_of k n c (unit (red n B x) m) (c m) g' hn (lsA_of (hB c hc).2 hu h1 (by omega))
        simp only [evE_call, evEs_cons, evEs_nil, evE_ix, evE_var, getS_z, getS_s, slV_p, bind_ok, ixc, of_some, s]⟩
    have ad : op2 .add (.lst (B.map fun c => row n (less c (unit (red n B x) m) (c m)))) (.lst [row n (unit (red n B x) m)]) = some (basD n (B.map (fun c => less c (unit (red n B x) m) (c m)) ++ [unit (red n B x) m])) := by
      rw [op_add_l (by simp; omega)]
      simp [basD]
    simp only [b_with_row, evSs_cons, evSs_nil, evS_for, evEs_cons, evEs_nil, evE_var, getS_z, getS_s, slV_p, bind_ok, fork_ok, i1, forD_some, f1, thenS_nx, evS_asg, evE_call, l, to_ok, setS_s, setS_z, evS_ite, evE_op, evE_lit, is_int_non, of_some, iteD_bl, Bool.false_eq_true, if_false, evE_bi, evE_comp, i2, c1, t, evS_ret, evE_lst, c2, ad, thenS_ret, outR_ret]
end Rz
/-! RzG4 -/
set_option linter.all false
set_option maxRecDepth 100000
set_option exponentiation.threshold 20000
namespace Rz
/-! ### elimination by the law -/
theorem T_law_lead : TT i_law_lead = some d_law_lead := rfl
theorem T_law_less_so : TT i_law_less_so = some d_law_less_so := rfl
theorem T_law_grown : TT i_law_grown = some d_law_grown := rfl
theorem lenL (n : Nat) (x : Vc) : bi .len [lrow n x] = some (.int (n : Int)) := len_lf _ _
theorem ixl {n i : Nat} {x : Nat → Rat} (h : i < n) (g : Gs) : ixD g (lrow n x) (.int (i : Int)) = some (fr (x i)) := ix_lf h
def ldI : Option Nat → Int
  | some l => (l : Int)
  | none => -1
theorem ev_law_lead (k n : Nat) (x : Vc) (g : Gs) (hn : n ≤ 1000) : evF TT (k + 1) i_law_lead [lrow n x] g = .ok (.int (ldI (lead n x))) g := by
  rw [evF_s T_law_lead, runF_eq rfl]
  show outR (evSs (evF TT k) b_law_lead [.p (lrow n x), .u] g) = _
  have q := forL_find' (b := bodyOf (evF TT k) [.ite (.op .ne (.ix (.ix (.var 0) (.var 1)) (.lit (.int 0))) (.lit (.int 0))) [.ret (.var 1)] []]) (t := .nm 1) (f := fun (i : Nat) => D.int (i : Int)) (g := g) (fun i => decide (x i ≠ 0)) (fun i => .int (i : Int)) (fun e => ∃ y, e = [.p (lrow n x), y]) n (fun i env hi ⟨y, he⟩ => by
    subst he
    have ix := ixl (x := x) hi g
    refine ⟨[.p (lrow n x), .p (.int (i : Int))], rfl, ?_⟩
    by_cases c : x i = 0
    · refine .inr ⟨by simp [c], [.p (lrow n x), .p (.int (i : Int))], .inl ?_, _, rfl⟩
      have : (x i).num = 0 := by rw [c]; rfl
      simp only [bodyOf_eq, evSs_cons, evSs_nil, evS_ite, evE_op, evE_ix, evE_var, evE_lit, getS_z, getS_s, slV_p, bind_ok, ix, ixq0, of_some, op_ne_i, this, decide_true, Bool.not_true, to_ok, iteD_bl, Bool.false_eq_true, if_false, thenS_nx]
    · refine .inl ⟨by simp [c], ?_⟩
      have : ¬ (x i).num = 0 := by rw [num0]; exact c
      simp only [bodyOf_eq, evSs_cons, evSs_nil, evS_ite, evE_op, evE_ix, evE_var, evE_lit, getS_z, getS_s, slV_p, bind_ok, ix, ixq0, of_some, op_ne_i, this, decide_false, Bool.not_false, to_ok, iteD_bl, if_true, evS_ret, thenS_ret]) n 0 [.p (lrow n x), .u] (by omega) ⟨_, rfl⟩
  rw [← List.range_eq_range'] at q
  rcases q with ⟨j, q1, q2⟩ | ⟨q1, env', q2, y, he⟩
  · have : lead n x = some j := q1
    rw [this]
    simp only [b_law_lead, evSs_cons, evSs_nil, evS_for, evEs_cons, evEs_nil, evE_bi, evE_var, getS_z, getS_s, slV_p, bind_ok, lenL, of_some, fork_ok, items_rng (show n ≤ 1000000 by omega), forD_some, q2, thenS_ret, outR_ret]
    rfl
  · have : lead n x = none := q1
    rw [this]
    subst he
    simp only [b_law_lead, evSs_cons, evSs_nil, evS_for, evEs_cons, evEs_nil, evE_bi, evE_var, getS_z, getS_s, slV_p, bind_ok, lenL, of_some, fork_ok, items_rng (show n ≤ 1000000 by omega), forD_some, q2, thenS_nx, evS_ret, evE_neg, evE_lit, negD_int, to_ok, thenS_ret, outR_ret]
    rfl
theorem ev_law_less_so (k n : Nat) (x y : Vc) (c : Rat) (g : Gs) (hn : n ≤ 1000) (h : LsA n x y c) : evF TT (k + 3) i_law_less_so [lrow n x, lrow n y, fr c] g = .ok (lrow n (less x y c)) g := by
  rw [evF_s T_law_less_so, runF_eq rfl]
  show outR (evSs (evF TT (k + 2)) b_law_less_so [.p (lrow n x), .p (lrow n y), .p (fr c), .u, .u] g) = _
  have q : compD (evF TT (k + 2)) (.call i_law_sub [.var 3, .call i_law_mul [.var 2, .var 4]]) (.tp [.nm 3, .nm 4]) [] [.p (lrow n x), .p (lrow n y), .p (fr c), .u, .u] g (some ((List.range n).map fun i => .tup [fr (x i), fr (y i)])) = .ok (lf n fun i => fr (less x y c i)) g :=
    compD_n (fun i => fr (less x y c i)) (by omega) fun i hi => ⟨[.p (lrow n x), .p (lrow n y), .p (fr c), .p (fr (x i)), .p (fr (y i))], rfl, by
      have t := ev_law_mul k c (y i) g h.cs (h.ys i hi)
      have m := ev_law_sub k (x i) (c * y i) g (h.xs i hi) (h.p i hi)
      simp only [evE_call, evEs_cons, evEs_nil, evE_var, getS_z, getS_s, slV_p, bind_ok, t, m]; rfl⟩
  have z : items .zip [lrow n x, lrow n y] = some ((List.range n).map fun i => .tup [fr (x i), fr (y i)]) := items_zip (sq_lf _ _) (sq_lf _ _)
  simp only [b_law_less_so, evSs_cons, evSs_nil, evS_ret, evE_comp, evEs_cons, evEs_nil, evE_var, getS_z, getS_s, slV_p, bind_ok, z, q, to_ok, thenS_ret, outR_ret]
  rfl
def basL (n : Nat) (B : List Vc) : D := .lst (B.map (lrow n))
theorem lt_neg (i : Option Nat) : op2 .lt (.int (ldI i)) (.int 0) = some (.bl i.isNone) := by
  cases i with
  | none => rfl
  | some l =>
    rw [op_lt_i]
    have : ¬ ((l : Int) < 0) := by omega
    show some (D.bl (decide ((l : Int) < 0))) = _
    rw [decide_eq_false this]; rfl
theorem div_low (a b : Rat) (h0 : b ≠ 0) : Rat.divInt (a.num * b.den) (a.den * b.num) = a / b := (div_eq_divInt a b h0).symm
theorem ev_law_grown (k n a b : Nat) (B : List Vc) (x : Vc) (g : Gs) (hn : n ≤ 1000) (hl : B.length ≤ 1000) (hB : ∀ c ∈ B, Ld n c ∧ Rb n b c) (hx : Rb n a x) (hs : a + B.length * (b + 1) + b ≤ 6600) :
    evF TT (k + 4) i_law_grown [basL n B, lrow n x] g = .ok (basL n (grow n B x)) g := by
  rw [evF_s T_law_grown, runF_eq rfl]
  show outR (evSs (evF TT (k + 3)) b_law_grown [.p (basL n B), .p (lrow n x), .u, .u, .u, .u, .u, .u] g) = _
  have hB2 : ∀ c ∈ B, ld n c < n ∧ Rb n b c := fun c hc => ⟨(hB c hc).1.lt, (hB c hc).2⟩
  obtain ⟨env', g', f1, hg, hpre, y2, he⟩ := forL_l (t := .nm 2) (enc := lrow n) (b := bodyOf (evF TT (k + 3)) [.asg 1 (.call i_law_less_so [.var 1, .var 2, .ix (.var 1) (.call i_law_lead [.var 2])])]) (env := [.p (basL n B), .p (lrow n x), .u, .u, .u, .u, .u, .u]) (g := g)
    (fun pre e g' => g' = g ∧ (∀ c ∈ pre, c ∈ B) ∧ ∃ y2, e = [.p (basL n B), .p (lrow n (red n pre x)), y2, .u, .u, .u, .u, .u]) B (fun pre c e g' hc hlt ⟨hg, hpre, y2, he⟩ => by
      subst he hg
      have hr := red_rb (B := pre) (fun d hd => hB2 d (hpre d hd)) hx
      have hm : pre.length * (b + 1) ≤ B.length * (b + 1) := Nat.mul_le_mul_right _ (by omega)
      have l := ev_law_lead (k + 2) n c g' hn
      rw [(hB c hc).1.lead] at l
      have s := ev_law_less_so k n (red n pre x) c (red n pre x (ld n c)) g' hn (lsA_of hr (hB c hc).2 (hB c hc).1.lt (by omega))
      have ix := ixl (n := n) (i := ld n c) (x := red n pre x) (hB c hc).1.lt g'
      refine ⟨[.p (basL n B), .p (lrow n (red n pre x)), .p (lrow n c), .u, .u, .u, .u, .u], rfl, [.p (basL n B), .p (lrow n (red n (pre ++ [c]) x)), .p (lrow n c), .u, .u, .u, .u, .u], g', .inl ?_, rfl, fun d hd => (List.mem_append.mp hd).elim (hpre d) fun z => by rw [List.mem_singleton.mp z]; exact hc, _, rfl⟩
      rw [bodyOf_eq, red_append]
      simp only [ldI] at l
      simp only [evSs_cons, evSs_nil, evS_asg, evE_call, evE_ix, evEs_cons, evEs_nil, evE_var, getS_z, getS_s, slV_p, bind_ok, l, ix, of_some, s, to_ok, setS_s, setS_z, thenS_nx]
      rfl) ⟨rfl, fun c hc => (List.not_mem_nil hc).elim, .u, rfl⟩
  subst he hg
  have hr := red_rb hB2 hx
  have l := ev_law_lead (k + 2) n (red n B x) g' hn
  have i1 : items .seq [basL n B] = some (B.map (lrow n)) := rfl
  have ln := lt_neg (lead n (red n B x))
  unfold grow
  cases el : lead n (red n B x) with
  | none =>
    rw [el] at l ln
    simp only [ldI, Option.isNone_none] at l ln
    simp only [b_law_grown, evSs_cons, evSs_nil, evS_for, evEs_cons, evEs_nil, evE_var, getS_z, getS_s, slV_p, bind_ok, fork_ok, i1, forD_some, f1, thenS_nx, evS_asg, evE_call, l, to_ok, setS_s, setS_z, evS_ite, evE_op, evE_lit, ln, of_some, iteD_bl, if_true, evS_ret, thenS_ret, outR_ret]
  | some m =>
    rw [el] at l ln
    simp only [ldI, Option.isNone_some] at l ln
    obtain ⟨h1, h2, h3⟩ := lead_some el
    have hu := hr.unit h1 h2
    have ix := ixl (n := n) (i := m) (x := red n B x) h1 g'
    have sm := hr.sm (by omega) h1
    have i2 : items .seq [lrow n (red n B x)] = some ((List.range n).map fun i => fr (red n B x i)) := items_seq (sq_lf _ _)
    have c1 : compD (evF TT (k + 3)) (.call i_law_low [.op .mul (.ix (.var 7) (.lit (.int 0))) (.var 5), .op .mul (.ix (.var 7) (.lit (.int 1))) (.var 4)]) (.nm 7) [] [.p (basL n B), .p (lrow n (red n B x)), y2, .p (.int (m : Int)), .p (.int (red n B x m).num), .p (.int ((red n B x m).den : Int)), .u, .u] g' (some ((List.range n).map fun i => fr (red n B x i))) = .ok (lf n fun i => fr (unit (red n B x) m i)) g' :=
      compD_n (fun i => fr (unit (red n B x) m i)) (by omega) fun i hi => ⟨[.p (basL n B), .p (lrow n (red n B x)), y2, .p (.int (m : Int)), .p (.int (red n B x m).num), .p (.int ((red n B x m).den : Int)), .u, .p (fr (red n B x i))], rfl, by
        have si := hr.sm (by omega) hi
        have m1 : mulOk (red n B x i).num (red n B x m).den = true := mulOk_BB si.num (by rw [natAbs_ofNat']; exact sm.den)
        have m3 : mulOk ((red n B x i).den : Int) (red n B x m).num = true := mulOk_BB (by rw [natAbs_ofNat']; exact si.den) sm.num
        have lw := ev_law_low (k + 2) ((red n B x i).num * (red n B x m).den) ((red n B x i).den * (red n B x m).num) g' (Int.mul_ne_zero (by have := (red n B x i).den_nz; omega) (num_ne h2)) (by
          have h1 := mul_lt_BB si.num sm.den
          rw [Int.natAbs_mul, natAbs_ofNat']
          have := p13400
          omega) (by
          have h1 := mul_lt_BB si.den sm.num
          rw [Int.natAbs_mul, natAbs_ofNat']
          have := p13400
          omega)
        rw [div_low _ _ h2] at lw
        simp only [evE_call, evEs_cons, evEs_nil, evE_op, evE_ix, evE_lit, evE_var, getS_z, getS_s, slV_p, bind_ok, ixq0, ixq1, of_some, op_mul_i m1, op_mul_i m3, lw]; rfl⟩
    have c2 : compD (evF TT (k + 3)) (.call i_law_less_so [.var 2, .var 6, .ix (.var 2) (.var 3)]) (.nm 2) [] [.p (basL n B), .p (lrow n (red n B x)), y2, .p (.int (m : Int)), .p (.int (red n B x m).num), .p (.int ((red n B x m).den : Int)), .p (lrow n (unit (red n B x) m)), .u] g' (some (B.map (lrow n))) = .ok (.lst (B.map fun c => lrow n (less c (unit (red n B x) m) (c m)))) g' :=
      compD_l B (lrow n) (fun c => lrow n (less c (unit (red n B x) m) (c m))) (by omega) fun c hc => ⟨[.p (basL n B), .p (lrow n (red n B x)), .p (lrow n c), .p (.int (m : Int)), .p (.int (red n B x m).num), .p (.int ((red n B x m).den : Int)), .p (lrow n (unit (red n B x) m)), .u], rfl, by
        have ixc := ixl (n := n) (i := m) (x := c) h1 g'
        have s := ev_law_less_so k n c (unit (red n B x) m) (c m) g' hn (lsA_of (hB c hc).2 hu h1 (by omega))
        simp only [evE_call, evEs_cons, evEs_nil, evE_ix, evE_var, getS_z, getS_s, slV_p, bind_ok, ixc, of_some, s]⟩
    have ad : op2 .add (.lst (B.map fun c => lrow n (less c (unit (red n B x) m) (c m)))) (.lst [lrow n (unit (red n B x) m)]) = some (basL n (B.map (fun c => less c (unit (red n B x) m) (c m)) ++ [unit (red n B x) m])) := by
      rw [op_add_l (by simp; omega)]
      simp [basL]
    have bt : ∀ env, bindT (.tp [.nm 4, .nm 5]) (fr (red n B x m)) env = some (setS (setS env 4 (.p (.int (red n B x m).num))) 5 (.p (.int ((red n B x m).den : Int)))) := fun env => rfl
    have c1' : compD (evF TT (k + 3)) (.call i_law_low [.op .mul (.ix (.var 7) (.lit (.int 0))) (.var 5), .op .mul (.ix (.var 7) (.lit (.int 1))) (.var 4)]) (.nm 7) [] [.p (basL n B), .p (lrow n (red n B x)), y2, .p (.int (m : Int)), .p (.int (red n B x m).num), .p (.int ((red n B x m).den : Int)), .u, .u] g' (some ((List.range n).map fun i => fr (red n B x i))) = .ok (lrow n (unit (red n B x) m)) g' := c1
    simp only [b_law_grown, evSs_cons, evSs_nil, evS_for, evEs_cons, evEs_nil, evE_var, getS_z, getS_s, slV_p, bind_ok, fork_ok, i1, forD_some, f1, thenS_nx, evS_asg, evE_call, l, to_ok, setS_s, setS_z, evS_ite, evE_op, evE_lit, ln, of_some, iteD_bl, Bool.false_eq_true, if_false, evS_unp, evE_ix, ix, bt, nxO_some, evE_comp, i2, c1', evS_ret, evE_lst, c2, ad, thenS_ret, outR_ret]
/-! ### a basis, a rank -/
theorem BBn.rows {e n : Nat} {B : List Vc} (h : BBn e n B) (hn : n ≤ 3) (he : e ≤ 650) : ∃ b, (∀ c ∈ B, Ld n c ∧ Rb n b c) ∧ e + B.length * (b + 1) + b ≤ 6600 := by
  by_cases c : B.length ≤ 2
  · refine ⟨bd e B.length, fun d hd => ⟨h.bb.bas.lds d hd, h.bb.rb d hd⟩, ?_⟩
    have hk : B.length = 0 ∨ B.length = 1 ∨ B.length = 2 := by omega
    rcases hk with k | k | k <;> rw [k] <;> simp only [bd] <;> omega
  · have hl : B.length = n := h.lt.elim (fun z => absurd z c) id
    exact ⟨0, fun d hd => ⟨h.bb.bas.lds d hd, h.bb.bas.full hl d hd⟩, by omega⟩
theorem BBn.base {e n : Nat} (hn : n ≤ 3) : ∀ (R : List Vc), (∀ x ∈ R, Rb n e x) → BBn e n (basis n R) :=
  list_rev_ind (fun _ => bbn_nil e n) fun l a ih h => by
    rw [basis_snoc]
    exact (ih fun x hx => h x (List.mem_append_left _ hx)).grow (h a (List.mem_append_right _ (List.mem_singleton.mpr rfl))) hn
end Rz
/-! RzG5 -/
set_option linter.all false
set_option maxRecDepth 100000
set_option exponentiation.threshold 20000
namespace Rz
/-! ### equations by the program -/
theorem grow_le (n : Nat) (B : List Vc) (x : Vc) : (grow n B x).length ≤ B.length + 1 := by
  unfold grow
  split
  · omega
  · simp
theorem basis_le (n : Nat) : ∀ R : List Vc, (basis n R).length ≤ R.length :=
  list_rev_ind (by simp [basis]) fun l a ih => by
    rw [basis_snoc]
    have := grow_le n (basis n l) a
    simp; omega
theorem BB3.base {e n : Nat} : ∀ (R : List Vc), R.length ≤ 3 → (∀ x ∈ R, Rb n e x) → BB3 e n (basis n R) :=
  list_rev_ind (fun _ _ => bb3_nil e n) fun l a ih hl h => by
    rw [basis_snoc]
    simp at hl
    have := basis_le n l
    exact (ih (by omega) fun x hx => h x (List.mem_append_left _ hx)).grow (h a (List.mem_append_right _ (List.mem_singleton.mpr rfl))) (by omega)
theorem BB3.rows {e n : Nat} {B : List Vc} (h : BB3 e n B) (hl : B.length ≤ 2) (he : e ≤ 650) : (∀ c ∈ B, Ld n c ∧ Rb n (bd e B.length) c) ∧ e + B.length * (bd e B.length + 1) + bd e B.length ≤ 6600 := by
  refine ⟨fun d hd => ⟨h.bas.lds d hd, h.rb d hd⟩, ?_⟩
  have hk : B.length = 0 ∨ B.length = 1 ∨ B.length = 2 := by omega
  rcases hk with k | k | k <;> rw [k] <;> simp only [bd] <;> omega
theorem slice_hi_l (ds : List D) (p : Nat) (h : p ≤ ds.length) : slD .hi (.lst ds) [.int (p : Int)] = some (.lst (ds.take p)) := by
  show some (D.lst (cut ds none (some (p : Int)))) = _
  unfold cut sIx
  simp only [Nat.sub_zero, List.drop_zero]
  rw [if_neg (by omega)]
  congr 3
  omega
theorem up_fr (x : Vc) (l : Nat) (q : Rat) : (up (fun i => fr (x i)) l (fr q)) = fun i => fr (up x l q i) := by
  funext i
  simp only [up]
  by_cases h : i = l <;> simp [h]
theorem lrow_put (m l : Nat) (x : Vc) (q : Rat) (h : l < m) (hm : m ≤ 1000) : ∃ a b c, slD .hi (lrow m x) [.int (l : Int)] = some (.lst a) ∧ op2 .add (.lst a) (.lst [fr q]) = some (.lst b) ∧ slD .lo (lrow m x) [.int ((l + 1 : Nat) : Int)] = some (.lst c) ∧ op2 .add (.lst b) (.lst c) = some (lrow m (up x l q)) := by
  refine ⟨_, _, _, slice_hi_l _ l (by simp; omega), op_add_l (by simp; omega), slice_lo_l _ (l + 1) (by simp; omega), ?_⟩
  rw [op_add_l (by simp; omega), up_map m _ l (fr q) h, up_fr]
  rfl
theorem fill_loop (k m : Nat) (hm : m ≤ 900) (g : Gs) (a0 a1 a2 a4 a5 : Sl) : ∀ (B : List Vc) (f0 : Vc) (y7 y8 : Sl), (∀ b ∈ B, Ld (m + 1) b) →
    (fillF m B f0 = none ∧ forL (bodyOf (evF TT (k + 1)) [.asg 8 (.call i_lead_of [.var 7]), .ite (.op .eq (.var 8) (.var 3)) [.ret (.lit (.non))] [],
    .asg 6 (.op .add (.op .add (.sl .hi (.var 6) [.var 8]) (.lst [.ix (.var 7) (.var 3)])) (.sl .lo (.var 6) [.op .add (.var 8) (.lit (.int 1))]))]) (.nm 7) (B.map (row (m + 1))) [a0, a1, a2, .p (.int (m : Int)), a4, a5, .p (lrow m f0), y7, y8] g = .ret .non g) ∨
    (∃ f z7 z8, fillF m B f0 = some f ∧ forL (bodyOf (evF TT (k + 1)) [.asg 8 (.call i_lead_of [.var 7]), .ite (.op .eq (.var 8) (.var 3)) [.ret (.lit (.non))] [],
    .asg 6 (.op .add (.op .add (.sl .hi (.var 6) [.var 8]) (.lst [.ix (.var 7) (.var 3)])) (.sl .lo (.var 6) [.op .add (.var 8) (.lit (.int 1))]))]) (.nm 7) (B.map (row (m + 1))) [a0, a1, a2, .p (.int (m : Int)), a4, a5, .p (lrow m f0), y7, y8] g = .nx [a0, a1, a2, .p (.int (m : Int)), a4, a5, .p (lrow m f), z7, z8] g)
  | [], f0, y7, y8, _ => .inr ⟨f0, y7, y8, rfl, rfl⟩
  | b :: B, f0, y7, y8, h => by
    have hb := h b (List.mem_cons_self ..)
    have l := ev_lead_of k (m + 1) b (row (m + 1) b) g (sq_tf _ _)
    rw [hb.lead] at l
    simp only [ldD] at l
    have hlt := hb.lt
    have ix := ixr (n := m + 1) (i := m) (x := b) (by omega) g
    generalize hbd : ([.asg 8 (.call i_lead_of [.var 7]), .ite (.op .eq (.var 8) (.var 3)) [.ret (.lit (.non))] [],
    .asg 6 (.op .add (.op .add (.sl .hi (.var 6) [.var 8]) (.lst [.ix (.var 7) (.var 3)])) (.sl .lo (.var 6) [.op .add (.var 8) (.lit (.int 1))]))] : List St) = body
    have IH := fill_loop k m hm g a0 a1 a2 a4 a5 B
    rw [hbd] at IH
    rw [List.map_cons]
    unfold forL fillF
    simp only [bind_nm, setS_s, setS_z]
    by_cases c : ld (m + 1) b = m
    · refine .inl ⟨by rw [if_pos c], ?_⟩
      have e : bodyOf (evF TT (k + 1)) body [a0, a1, a2, .p (.int (m : Int)), a4, a5, .p (lrow m f0), .p (row (m + 1) b), y8] g = .ret .non g := by
        rw [bodyOf_eq, ← hbd]
        rw [c] at l
        simp only [evSs_cons, evSs_nil, evS_asg, evE_call, evEs_cons, evEs_nil, evE_var, getS_z, getS_s, slV_p, bind_ok, l, to_ok, setS_s, setS_z, thenS_nx, evS_ite, evE_op, op_eq_i, of_some, decide_true, iteD_bl, if_true, evS_ret, evE_lit, thenS_ret]
      simp only [e]
    · obtain ⟨s1, s2, s3, q1, q2, q3, q4⟩ := lrow_put m (ld (m + 1) b) f0 (b m) (by omega) (by omega)
      push_cast at q3
      have e : bodyOf (evF TT (k + 1)) body [a0, a1, a2, .p (.int (m : Int)), a4, a5, .p (lrow m f0), .p (row (m + 1) b), y8] g = .nx [a0, a1, a2, .p (.int (m : Int)), a4, a5, .p (lrow m (up f0 (ld (m + 1) b) (b m))), .p (row (m + 1) b), .p (.int (ld (m + 1) b : Nat))] g := by
        rw [bodyOf_eq, ← hbd]
        have ne : ¬ ((ld (m + 1) b : Nat) : Int) = (m : Int) := by omega
        simp only [evSs_cons, evSs_nil, evS_asg, evE_call, evEs_cons, evEs_nil, evE_var, getS_z, getS_s, slV_p, bind_ok, l, to_ok, setS_s, setS_z, thenS_nx, evS_ite, evE_op, op_eq_i, of_some, ne, decide_false, iteD_bl, Bool.false_eq_true, if_false, evE_sl, evIs_cons, evIs_nil, toI_int, q1, evE_lst, evE_ix, ix, q2, evE_lit, op_add_i, q3, q4]
      simp only [e]
      rw [if_neg c]
      exact IH (up f0 (ld (m + 1) b) (b m)) _ _ fun d hd => h d (List.mem_cons_of_mem _ hd)
theorem zeros_rep (m : Nat) : (List.replicate m [D.tup [.int 0, .int 1]]).flatten = (List.range m).map fun _ => fr 0 := by
  induction m with
  | zero => rfl
  | succ m ih =>
    rw [List.replicate_succ', List.flatten_append, ih, List.range_succ, List.map_append]
    rfl
theorem short_n {m : Nat} (h : m ≤ 1000000) : shortI (m : Int) = true := by unfold shortI; rw [Bool.and_eq_true]; exact ⟨decide_eq_true (by omega), decide_eq_true (by omega)⟩
theorem le_line {m : Nat} (h : m ≤ 1000000) : Nat.ble m lineN = true := Nat.ble_eq_true_of_le h
theorem zeros_l (m : Nat) (hm : m ≤ 1000) : op2 .mul (.lst [.tup [.int 0, .int 1]]) (.int (m : Int)) = some (lrow m fun _ => 0) := by
  have e0 : op2 .mul (.lst [.tup [.int 0, .int 1]]) (.int (m : Int)) = (if (shortI (m : Int) && Nat.ble (1 * (m : Int).toNat) lineN) = true then some (D.lst (List.replicate (m : Int).toNat [D.tup [.int 0, .int 1]]).flatten) else none) := rfl
  have e2 : Nat.ble (1 * (m : Int).toNat) lineN = true := le_line (by omega)
  rw [e0, if_pos (by rw [short_n (by omega), e2]; rfl), Int.toNat_natCast, zeros_rep]; rfl
def solD (m : Nat) : Option Vc → D
  | none => .non
  | some f => row m f
def augs (m r : Nat) (A : Nat → Vc) (q : Nat → Rat) : List Vc := (List.range r).map fun a => up (A a) m (q a)
theorem augs_succ (m r : Nat) (A : Nat → Vc) (q : Nat → Rat) : augs m (r + 1) A q = augs m r A q ++ [up (A r) m (q r)] := by
  unfold augs; rw [List.range_succ, List.map_append]; rfl
theorem ev_solved (k r m e : Nat) (A : Nat → Vc) (q : Nat → Rat) (gd : D) (g : Gs) (hr0 : 0 < r) (hr : r ≤ 3) (hm : m ≤ 900) (hg : Sq gd r fun a => fr (q a)) (he : e ≤ 650) (hR : ∀ a, a < r → Rb (m + 1) e (up (A a) m (q a))) :
    evF TT (k + 6) i_solved [lf r fun a => row m (A a), gd] g = .ok (solD m (solve m (augs m r A q))) g := by
  rw [evF_s T_solved, runF_eq rfl]
  show outR (evSs (evF TT (k + 5)) b_solved [.p (lf r fun a => row m (A a)), .p gd, .u, .u, .u, .u, .u, .u, .u] g) = _
  have hRm : ∀ i, i ≤ r → ∀ x ∈ augs m i A q, Rb (m + 1) e x := fun i hi x hx => by
    obtain ⟨a, ha, rfl⟩ := List.mem_map.mp hx
    exact hR a (by have := List.mem_range.mp ha; omega)
  have hal : ∀ i, (augs m i A q).length = i := fun i => by unfold augs; simp
  obtain ⟨env', g', f1, hg', y4, y5, he'⟩ := forL_n (t := .tp [(.nm 4), (.nm 5)]) (f := fun a => .tup [row m (A a), fr (q a)]) (b := bodyOf (evF TT (k + 5)) [.asg 2 (.call i_with_row [.var 2, .op .add (.bi .tuple [.var 4]) (.tup [.var 5])])]) (env := [.p (lf r fun a => row m (A a)), .p gd, .p (.lst []), .p (.int (m : Int)), .u, .u, .u, .u, .u]) (g := g)
    (fun i en g' => g' = g ∧ ∃ y4 y5, en = [.p (lf r fun a => row m (A a)), .p gd, .p (basD (m + 1) (basis (m + 1) (augs m i A q))), .p (.int (m : Int)), y4, y5, .u, .u, .u]) r (fun i en g' hi ⟨hg', y4, y5, he'⟩ => by
      subst he' hg'
      have bl := basis_le (m + 1) (augs m i A q)
      rw [hal] at bl
      have bb := BB3.base (augs m i A q) (by rw [hal]; omega) (hRm i (by omega))
      obtain ⟨hb, hs⟩ := bb.rows (by omega) he
      have w := ev_with_row k (m + 1) e _ (basis (m + 1) (augs m i A q)) (up (A i) m (q i)) g' (by omega) (by omega) hb (hR i hi) hs
      have ht : bi .tuple [row m (A i)] = some (row m (A i)) := tuple_tf _ _
      have sn := row_snoc m (A i) (q i) (by omega)
      refine ⟨_, rfl, _, g', .inl ?_, rfl, .p (row m (A i)), .p (fr (q i)), rfl⟩
      rw [bodyOf_eq, augs_succ, basis_snoc]
      simp only [evSs_cons, evSs_nil, evS_asg, evE_call, evE_op, evE_bi, evE_tup, evEs_cons, evEs_nil, evE_var, getS_z, getS_s, slV_p, bind_ok, ht, of_some, sn, w, to_ok, setS_s, setS_z, thenS_nx]) ⟨rfl, .u, .u, rfl⟩
  subst he' hg'
  have x0 : ixD g' (lf r fun a => row m (A a)) (.int 0) = some (row m (A 0)) := ix_lf (i := 0) hr0
  have hlm : bi .len [row m (A 0)] = some (.int (m : Int)) := len_tf _ _
  have hz : items .zip [lf r fun a => row m (A a), gd] = some ((List.range r).map fun a => .tup [row m (A a), fr (q a)]) := items_zip (sq_lf _ _) hg
  have i2 : items .seq [basD (m + 1) (basis (m + 1) (augs m r A q))] = some ((basis (m + 1) (augs m r A q)).map (row (m + 1))) := rfl
  have z := zeros_l m (by omega)
  have fl := fill_loop (k + 4) m hm g' (.p (lf r fun a => row m (A a))) (.p gd) (.p (basD (m + 1) (basis (m + 1) (augs m r A q)))) y4 y5 (basis (m + 1) (augs m r A q)) (fun _ => 0) .u .u fun b hb => (basis_bas (m + 1) _).lds b hb
  unfold solve
  rcases fl with ⟨q1, q2⟩ | ⟨f, z7, z8, q1, q2⟩
  · rw [q1]
    simp only [b_solved, evSs_cons, evSs_nil, evS_par, evEs_cons, evEs_nil, evE_lst, evE_bi, evE_ix, evE_var, evE_lit, getS_z, getS_s, slV_p, bind_ok, x0, hlm, of_some, parD_ok, setPar_cons, setPar_nil, Bool.false_and, Bool.false_eq_true, if_false, setS_s, setS_z, nxO_some, thenS_nx, evS_for, fork_ok, hz, forD_some, f1, evS_asg, evE_op, evE_glo, z, to_ok, i2, q2, thenS_ret, outR_ret]
    rfl
  · rw [q1]
    have ht : bi .tuple [lrow m f] = some (row m f) := tuple_lf _ _
    simp only [b_solved, evSs_cons, evSs_nil, evS_par, evEs_cons, evEs_nil, evE_lst, evE_bi, evE_ix, evE_var, evE_lit, getS_z, getS_s, slV_p, bind_ok, x0, hlm, of_some, parD_ok, setPar_cons, setPar_nil, Bool.false_and, Bool.false_eq_true, if_false, setS_s, setS_z, nxO_some, thenS_nx, evS_for, fork_ok, hz, forD_some, f1, evS_asg, evE_op, evE_glo, z, to_ok, i2, q2, evS_ret, ht, thenS_ret, outR_ret]
    rfl
end Rz
/-! RzG6 -/
set_option linter.all false
set_option maxRecDepth 100000
set_option exponentiation.threshold 20000
namespace Rz
/-! ### one number below a whole basis -/
def lsum (x : Vc) (n : Nat) : List Vc → Vc
  | [], _ => 0
  | b :: B, i => x (ld n b) * b i + lsum x n B i
theorem lsum_congr {n : Nat} {x y : Vc} : ∀ {B : List Vc}, (∀ b ∈ B, x (ld n b) = y (ld n b)) → ∀ i, lsum x n B i = lsum y n B i
  | [], _, _ => rfl
  | b :: B, h, i => by simp only [lsum]; rw [h b (List.mem_cons_self ..), lsum_congr (fun c hc => h c (List.mem_cons_of_mem _ hc)) i]
theorem red_sum {n : Nat} : ∀ {B : List Vc} (x : Vc), Bas n B → ∀ i, red n B x i = x i - lsum x n B i
  | [], x, _, i => by show x i = x i - 0; grind
  | b :: B, x, h, i => by
    have ih := red_sum (less x b (x (ld n b))) h.tail i
    show red n B (less x b (x (ld n b))) i = _
    rw [ih]
    have e : lsum (less x b (x (ld n b))) n B i = lsum x n B i := lsum_congr (fun c hc => by
      simp only [less]
      rw [((List.pairwise_cons.mp h.off).1 c hc).1]; grind) i
    rw [e]; simp only [lsum, less]; grind
/-- D is below all rows -/
structure Cb (n D M : Nat) (B : List Vc) : Prop where
  pos : 0 < D
  le : D ≤ M
  z : ∀ b ∈ B, ∀ c, c < n → ∃ z : Int, b c * (D : Rat) = (z : Rat) ∧ z.natAbs ≤ M
theorem cb_nil (n : Nat) : Cb n 1 1 [] := ⟨by decide, by decide, fun b hb => (List.not_mem_nil hb).elim⟩
theorem Cb.tail {n D M : Nat} {b : Vc} {B : List Vc} (h : Cb n D M (b :: B)) : Cb n D M B := ⟨h.pos, h.le, fun c hc => h.z c (List.mem_cons_of_mem _ hc)⟩
theorem Cb.lsum {n D M E N : Nat} {x : Vc} (hx : ∀ c, c < n → ∃ z : Int, x c * (E : Rat) = (z : Rat) ∧ z.natAbs ≤ N) {i : Nat} (hi : i < n) : ∀ {B : List Vc}, (∀ b ∈ B, ld n b < n) → Cb n D M B → ∃ z : Int, lsum x n B i * ((E * D : Nat) : Rat) = (z : Rat) ∧ z.natAbs ≤ B.length * (N * M)
  | [], _, _ => ⟨0, by simp only [Rz.lsum]; grind, by simp⟩
  | b :: B, hl, h => by
    obtain ⟨z, e, hz⟩ := Cb.lsum hx hi (fun c hc => hl c (List.mem_cons_of_mem _ hc)) h.tail
    obtain ⟨w, we, hw⟩ := hx (ld n b) (hl b (List.mem_cons_self ..))
    obtain ⟨v, ve, hv⟩ := h.z b (List.mem_cons_self ..) i hi
    refine ⟨w * v + z, ?_, ?_⟩
    · simp only [Rz.lsum]; push_cast at e ⊢; rw [← e, ← we, ← ve]; grind
    · have m : (w * v).natAbs ≤ N * M := by rw [Int.natAbs_mul]; exact Nat.mul_le_mul hw hv
      rw [List.length_cons, Nat.succ_mul]; omega
theorem Cb.grow {n D M E N : Nat} {B : List Vc} {x : Vc} (h : Cb n D M B) (hb : Bas n B) (hE : 0 < E) (hEN : E ≤ N) (hx : ∀ c, c < n → ∃ z : Int, x c * (E : Rat) = (z : Rat) ∧ z.natAbs ≤ N) : ∃ D', Cb n D' ((2 * (B.length + 1)) * (M * (N * M))) (grow n B x) := by
  have hMM : M ≤ (2 * (B.length + 1)) * (M * (N * M)) := by
    have hM : 0 < M := Nat.lt_of_lt_of_le h.pos h.le
    have hN : 0 < N := Nat.lt_of_lt_of_le hE hEN
    have h1 : M * 1 ≤ M * (N * M) := Nat.mul_le_mul_left M (Nat.mul_pos hN hM)
    have h2 : 1 * (M * (N * M)) ≤ (2 * (B.length + 1)) * (M * (N * M)) := Nat.mul_le_mul_right _ (by omega)
    omega
  unfold Rz.grow
  cases el : lead n (red n B x) with
  | none => exact ⟨D, h.pos, by have := h.le; omega, fun b hb c hc => by
      obtain ⟨z, e, hz⟩ := h.z b hb c hc
      exact ⟨z, e, by omega⟩⟩
  | some l =>
    obtain ⟨h1, h2, h3⟩ := lead_some el
    have zr : ∀ c, c < n → ∃ z : Int, red n B x c * ((E * D : Nat) : Rat) = (z : Rat) ∧ z.natAbs ≤ (B.length + 1) * (N * M) := fun c hc => by
      obtain ⟨v, ve, hv⟩ := Cb.lsum hx hc (fun b hb' => (hb.lds b hb').lt) h
      obtain ⟨w, we, hw⟩ := hx c hc
      refine ⟨w * D - v, ?_, ?_⟩
      · rw [red_sum x hb c]; push_cast at ve ⊢; rw [← ve, ← we]; grind
      · have m : (w * (D : Int)).natAbs ≤ N * M := by rw [Int.natAbs_mul]; exact Nat.mul_le_mul hw (by simpa using h.le)
        rw [Nat.succ_mul]; omega
    generalize hr : red n B x = r at *
    obtain ⟨zl, el', hzl⟩ := zr l h1
    have hED : ((E * D : Nat) : Rat) ≠ 0 := by
      have : E * D ≠ 0 := Nat.mul_ne_zero (by omega) (by have := h.pos; omega)
      exact_mod_cast this
    have zl0 : zl ≠ 0 := fun e => by
      rw [e] at el'
      have : r l * ((E * D : Nat) : Rat) = 0 := by rw [el']; rfl
      grind
    have key : ∀ c, c < n → ∃ z : Int, unit r l c * (zl.natAbs : Rat) = (z : Rat) ∧ z.natAbs ≤ (B.length + 1) * (N * M) := fun c hc => by
      obtain ⟨z, e, hz⟩ := zr c hc
      have wr : (zl : Rat) ≠ 0 := fun e => zl0 (by exact_mod_cast e)
      by_cases s : 0 ≤ zl
      · refine ⟨z, ?_, hz⟩
        have : ((zl.natAbs : Nat) : Rat) = (zl : Rat) := by
          have : ((zl.natAbs : Nat) : Int) = zl := by omega
          rw [← this]; push_cast; rfl
        rw [this, ← e, ← el']; simp only [Rz.unit]; grind
      · refine ⟨-z, ?_, by omega⟩
        have : ((zl.natAbs : Nat) : Rat) = -(zl : Rat) := by
          have : ((zl.natAbs : Nat) : Int) = -zl := by omega
          have h : (((zl.natAbs : Nat) : Int) : Rat) = ((-zl : Int) : Rat) := by rw [this]
          push_cast at h ⊢; exact h
        rw [this]; push_cast; rw [← e, ← el']; simp only [Rz.unit]; grind
    have bb : M * ((B.length + 1) * (N * M)) = (B.length + 1) * (M * (N * M)) := Nat.mul_left_comm ..
    refine ⟨D * zl.natAbs, Nat.mul_pos h.pos (by omega), ?_, fun b hb' c hc => ?_⟩
    · have := Nat.mul_le_mul h.le hzl
      rw [bb] at this
      rw [Nat.mul_assoc]
      omega
    · obtain ⟨u, ue, hu⟩ := key c hc
      rcases List.mem_append.mp hb' with hm | hm
      · obtain ⟨d, hd, rfl⟩ := List.mem_map.mp hm
        obtain ⟨z1, e1, hz1⟩ := h.z d hd c hc
        obtain ⟨z2, e2, hz2⟩ := h.z d hd l h1
        refine ⟨z1 * zl.natAbs - z2 * u, ?_, ?_⟩
        · simp only [less]; push_cast; rw [← e1, ← e2, ← ue]; grind
        · have m1 : (z1 * (zl.natAbs : Int)).natAbs ≤ M * ((B.length + 1) * (N * M)) := by rw [Int.natAbs_mul]; exact Nat.mul_le_mul hz1 (by simpa using hzl)
          have m2 : (z2 * u).natAbs ≤ M * ((B.length + 1) * (N * M)) := by rw [Int.natAbs_mul]; exact Nat.mul_le_mul hz2 hu
          rw [bb] at m1 m2
          rw [Nat.mul_assoc]
          omega
      · rw [List.mem_singleton.mp hm]
        refine ⟨D * u, ?_, ?_⟩
        · push_cast; rw [← ue]; grind
        · have m1 : ((D : Int) * u).natAbs ≤ M * ((B.length + 1) * (N * M)) := by rw [Int.natAbs_mul]; exact Nat.mul_le_mul (by simpa using h.le) hu
          rw [bb] at m1
          rw [Nat.mul_assoc]
          omega
/-- a basis of at most three rows over one number -/
def cd (e : Nat) : Nat → Nat
  | 0 => 0
  | 1 => e + 3
  | 2 => 3 * e + 9
  | _ => 7 * e + 21
theorem cd_step (e k : Nat) (hk : k ≤ 2) : (2 * (k + 1)) * (2 ^ cd e k * (2 ^ e * 2 ^ cd e k)) ≤ 2 ^ cd e (k + 1) := by
  have h : 2 * (k + 1) ≤ 2 ^ 3 := by have : (2 : Nat) ^ 3 = 8 := by decide
                                     omega
  have := Nat.mul_le_mul_right (2 ^ cd e k * (2 ^ e * 2 ^ cd e k)) h
  rw [← Nat.pow_add, ← Nat.pow_add, ← Nat.pow_add] at this
  rw [← Nat.pow_add, ← Nat.pow_add]
  refine Nat.le_trans this (Nat.pow_le_pow_right (by decide) ?_)
  have hk : k = 0 ∨ k = 1 ∨ k = 2 := by omega
  rcases hk with rfl | rfl | rfl
  · show 3 + (0 + (e + 0)) ≤ e + 3; omega
  · show 3 + (e + 3 + (e + (e + 3))) ≤ 3 * e + 9; omega
  · show 3 + (3 * e + 9 + (e + (3 * e + 9))) ≤ 7 * e + 21; omega
theorem Cb.base {e n : Nat} : ∀ (R : List Vc), R.length ≤ 3 → (∀ x ∈ R, Rb n e x) → ∃ D, Cb n D (2 ^ cd e R.length) (basis n R) :=
  list_rev_ind (fun _ _ => ⟨1, cb_nil n⟩) fun R a ih hl h => by
    simp at hl
    rw [basis_snoc]
    obtain ⟨D, hD⟩ := ih (by omega) fun x hx => h x (List.mem_append_left _ hx)
    obtain ⟨E, e1, e2, e3⟩ := (h a (List.mem_append_right _ (List.mem_singleton.mpr rfl))).ex
    obtain ⟨D', h'⟩ := hD.grow (basis_bas n R) e1 e2 e3
    have bl := basis_le n R
    have st := cd_step e R.length (by omega)
    have : 2 * ((basis n R).length + 1) * (2 ^ cd e R.length * (2 ^ e * 2 ^ cd e R.length)) ≤ 2 * (R.length + 1) * (2 ^ cd e R.length * (2 ^ e * 2 ^ cd e R.length)) := Nat.mul_le_mul_right _ (by omega)
    have hlen : (R ++ [a]).length = R.length + 1 := by simp
    rw [hlen]
    exact ⟨D', h'.pos, by have := h'.le; omega, fun b hb c hc => by
      obtain ⟨z, q, hz⟩ := h'.z b hb c hc
      exact ⟨z, q, by omega⟩⟩
/-- sums of products -/
theorem rbx_sum {m a e : Nat} {f y : Vc} (hf : Rb m a f) (hy : Rb m e y) (hm : m ≤ 900) (h : a + e + 10 ≤ 6600) : SmS m fun c => f c * y c := by
  obtain ⟨D, d1, d2, d3⟩ := hf.ex
  obtain ⟨E, e1, e2, e3⟩ := hy.ex
  have hp : ∀ c, c < m → ∃ z : Int, f c * y c * ((D * E : Nat) : Rat) = (z : Rat) ∧ z.natAbs ≤ 2 ^ a * 2 ^ e := fun c hc => by
    obtain ⟨z, ze, hz⟩ := d3 c hc
    obtain ⟨w, we, hw⟩ := e3 c hc
    refine ⟨z * w, ?_, ?_⟩
    · push_cast; rw [← ze, ← we]; grind
    · rw [Int.natAbs_mul]; exact Nat.mul_le_mul hz hw
  have hs : ∀ j, j ≤ m → ∃ z : Int, sumN j (fun c => f c * y c) * ((D * E : Nat) : Rat) = (z : Rat) ∧ z.natAbs ≤ j * (2 ^ a * 2 ^ e) := fun j => by
    induction j with
    | zero => intro _; exact ⟨0, by simp only [sumN]; grind, by simp⟩
    | succ j ih =>
      intro hj
      obtain ⟨z, ze, hz⟩ := ih (by omega)
      obtain ⟨w, we, hw⟩ := hp j (by omega)
      refine ⟨z + w, ?_, ?_⟩
      · simp only [sumN]; push_cast at *; rw [← ze, ← we]; grind
      · rw [Nat.succ_mul]; omega
  have p : (2 : Nat) ^ (a + e + 10) = 2 ^ a * 2 ^ e * 1024 := by rw [Nat.pow_add, Nat.pow_add]
  have dd : D * E ≤ 2 ^ a * 2 ^ e := Nat.mul_le_mul d2 e2
  have big : ∀ (q : Rat) (z : Int), q * ((D * E : Nat) : Rat) = (z : Rat) → z.natAbs ≤ 900 * (2 ^ a * 2 ^ e) → Sm q := fun q z hq hz => by
    have r : Rb 1 (a + e + 10) (fun _ => q) := ⟨D * E, Nat.mul_pos d1 e1, by omega, fun c hc => ⟨z, hq, by omega⟩⟩
    exact r.sm h (c := 0) (by decide)
  refine ⟨fun i hi => ?_, fun i hi => ?_⟩
  · obtain ⟨z, ze, hz⟩ := hp i hi
    exact big _ z ze (by omega)
  · obtain ⟨z, ze, hz⟩ := hs i hi
    have : i * (2 ^ a * 2 ^ e) ≤ 900 * (2 ^ a * 2 ^ e) := Nat.mul_le_mul_right _ (by omega)
    exact big _ z ze (by omega)
end Rz
/-! RzG7 -/
set_option linter.all false
set_option maxRecDepth 100000
set_option exponentiation.threshold 20000
namespace Rz
theorem T_need_vessel : TT i_need_vessel = some d_need_vessel := rfl
theorem iz_le1 {D : Nat} {q : Rat} (h : Iz D q) (h0 : 0 ≤ q) (h1 : q ≤ 1) : ∃ z : Int, q * (D : Rat) = (z : Rat) ∧ z.natAbs ≤ D := by
  obtain ⟨z, e⟩ := h
  refine ⟨z, e, ?_⟩
  have p : (0 : Rat) ≤ (D : Rat) := by exact_mod_cast Nat.zero_le D
  have a : (0 : Rat) ≤ ((z : Int) : Rat) := by rw [← e]; exact Rat.mul_nonneg h0 p
  have b : ((z : Int) : Rat) ≤ ((D : Int) : Rat) := by
    rw [← e]
    have := Rat.mul_le_mul_of_nonneg_right h1 p
    push_cast; grind
  have a' : 0 ≤ z := by exact_mod_cast a
  have b' : z ≤ (D : Int) := Rat.intCast_le_intCast.mp b
  omega
theorem wx0 (n : Nat) (V : Ves) (ss : List Stp) (g : Gs) : ixD g (wayD n V ss) (.int 0) = some (vsD n V) := ix_t0 g _ _
theorem lenV (n : Nat) (V : Ves) : bi .len [vsD n V] = some (.int (n : Int)) := len_tf _ _
end Rz
/-! RzG8 -/
set_option linter.all false
set_option maxRecDepth 100000
set_option exponentiation.threshold 20000
namespace Rz
theorem map_range_getD {α β : Type} (S : List α) (d : α) (f : α → β) : (List.range S.length).map (fun c => f (S.getD c d)) = S.map f := by
  apply List.ext_getElem?
  intro j
  by_cases h : j < S.length
  · rw [get_map _ _ j h]
    simp [h]
  · simp [List.getElem?_eq_none (by omega : S.length ≤ j)]
    omega
theorem eqv_cons_nil {d : D} {ds : List D} (h : D.shp 60 (.lst (d :: ds)) = true) : op2 .eq (.lst (d :: ds)) (.lst []) = some (.bl false) := by
  show (if shp2 (.lst (d :: ds)) (.lst []) = true then some (D.bl (D.eqv (.lst (d :: ds)) (.lst []))) else none) = _
  have : shp2 (.lst (d :: ds)) (.lst []) = true := by unfold shp2; rw [h]; rfl
  rw [if_pos this]; rfl
theorem pl_lst {k : Nat} {ds : List D} (h : ∀ d ∈ ds, Pl k d) : Pl (k + 1) (.lst ds) := ⟨shps_all k ds fun d hd => (h d hd).shp, eqvs_refl ds fun d hd => (h d hd).refl⟩
theorem fr_inj {a b : Rat} (h1 : a.num = b.num) (h2 : a.den = b.den) : a = b := Rat.ext h1 h2
theorem eqv_fr (a b : Rat) : D.eqv (fr a) (fr b) = decide (a = b) := by
  show ((a.num == b.num) && (((a.den : Int) == (b.den : Int)) && true)) = _
  by_cases h : a = b
  · subst h; simp
  · rw [decide_eq_false h]
    by_cases h1 : a.num = b.num
    · by_cases h2 : a.den = b.den
      · exact absurd (fr_inj h1 h2) h
      · have : ¬ ((a.den : Int) = (b.den : Int)) := by omega
        simp [h1, this]
    · simp [h1]
theorem ne_fr (a b : Rat) : op2 .ne (fr a) (fr b) = some (.bl (!decide (a = b))) := by
  show (if shp2 (fr a) (fr b) = true then some (D.bl (!D.eqv (fr a) (fr b))) else none) = _
  have : shp2 (fr a) (fr b) = true := by unfold shp2; rw [(pl_fr 59 a).shp, (pl_fr 59 b).shp]; rfl
  rw [if_pos this, eqv_fr]
end Rz
/-! RzG9 -/
set_option linter.all false
set_option maxRecDepth 100000
set_option exponentiation.threshold 20000
namespace Rz
/-! ### rows put together, by numbers -/
theorem sumN_front (m : Nat) (f : Nat → Rat) : sumN (m + 1) f = f 0 + sumN m fun c => f (c + 1) := by
  induction m with
  | zero => simp only [sumN]; grind
  | succ m ih =>
    have e : sumN (m + 1 + 1) f = sumN (m + 1) f + f (m + 1) := rfl
    rw [e, ih]; simp only [sumN]; grind
def mapT (n : Nat) (A : Nat → Nat → Rat) (x : Vc) : Vc := fun i => sumN n fun k => A i k * x k
theorem mapT_less (n : Nat) (A : Nat → Nat → Rat) (x y : Vc) (c : Rat) : mapT n A (less x y c) = less (mapT n A x) (mapT n A y) c := by
  funext i
  simp only [mapT, less]
  rw [← sumN_mull]
  have : (sumN n fun k => A i k * x k) - (sumN n fun k => c * (A i k * y k)) = (sumN n fun k => A i k * x k) + (-1) * sumN n fun k => c * (A i k * y k) := by grind
  rw [this, ← sumN_mull, ← sumN_add]
  exact sumN_congr fun k _ => by grind
theorem Sp.map {n : Nat} (A : Nat → Nat → Rat) : ∀ {B : List Vc} {x : Vc}, Sp n B x → Sp n (B.map (mapT n A)) (mapT n A x)
  | [], x, h => fun i hi => by
    simp only [mapT]
    rw [← sumN_zero n]
    exact sumN_congr fun k hk => by rw [h k hk]; grind
  | b :: B, x, ⟨c, h⟩ => ⟨c, by rw [← mapT_less]; exact h.map A⟩
end Rz
/-! RzG10 -/
set_option linter.all false
set_option maxRecDepth 100000
set_option exponentiation.threshold 20000
namespace Rz
theorem ev_need_vessel (k n p : Nat) (g : Gs) (hp : p < n) : evF TT (k + 3) i_need_vessel [.int (n : Int), .int (p : Int)] g = .ok .non g := by
  rw [evF_s T_need_vessel, runF_eq rfl]
  show outR (evSs (evF TT (k + 2)) b_need_vessel [.p (.int (n : Int)), .p (.int (p : Int))] g) = _
  have f := is_from_t k g (x := (p : Int)) (lo := 0) (hi := (n : Int) - 1) (by omega) (by omega)
  simp only [b_need_vessel, evSs_cons, evSs_nil, evS_ite, evE_not, evE_call, evE_op, evEs_cons, evEs_nil, evE_var, evE_lit, getS_z, getS_s, slV_p, bind_ok, op_sub_i, of_some, f, notD_bl, Bool.not_true, to_ok, iteD_bl, Bool.false_eq_true, if_false, thenS_nx, outR_nx]
theorem intsOf_map (l : List Int) : intsOf (l.map D.int) = some l := by
  induction l with
  | nil => rfl
  | cons a l ih => show (intsOf (l.map D.int)).map (a :: ·) = _; rw [ih]; rfl
end Rz
/-! RzG11 -/
set_option linter.all false
set_option maxRecDepth 100000
set_option exponentiation.threshold 20000
namespace Rz
/-- a law's draw of a way: closed ones by a 0 -/
theorem ev_drawn0 (k m i w : Nat) (env : Env) (g : Gs) (he : getS env i = .p (.mref m)) (hs : Sv g m) (hw0 : 0 < w) (hw1 : w < 1000) : ∃ (n : Nat) (V : Ves) (ss : List Stp) (g' : Gs), evE (evF TT (k + 4)) (.ite (.op .eq (.call i_law_sift [.var i, .lit (.int (w : Int))]) (.lit (.int 0))) (.call i_law_closed [.var i]) (.call i_law_way [.var i, .call i_law_vessels [.var i, .lit (.int 1)]])) env g = .ok (wayD n V ss) g' ∧ WayOk n V ss ∧ Sv g' m := by
  obtain ⟨r, g1, q1, hr0, hr, hs1⟩ := sift_i (k + 3) m (w : Int) g hs (by omega) (by omega)
  by_cases c : r = 0
  · obtain ⟨n, V, ss, g3, q3, hw, hs3⟩ := ev_law_closed (k + 2) m g1 hs1
    refine ⟨n, V, ss, g3, ?_, hw, hs3⟩
    simp only [evE_ite, evE_op, evE_call, evEs_cons, evEs_nil, evE_var, he, slV_p, evE_lit, bind_ok, q1, op_eq_i, c, decide_true, of_some, iteD_bl, if_true, q3]
  · obtain ⟨n, V, g2, q2, hn1, hn3, hV, hs2⟩ := ev_law_vessels (k + 1) m 1 g1 hs1 (by decide) (by decide)
    obtain ⟨ss, g3, q3, hw, hs3⟩ := ev_law_way k m n V g2 hs2 hn1 hn3 hV
    refine ⟨n, V, ss, g3, ?_, hw, hs3⟩
    rw [show (((1 : Nat) : Int)) = 1 from rfl] at q2
    simp only [evE_ite, evE_op, evE_call, evEs_cons, evEs_nil, evE_var, he, slV_p, evE_lit, bind_ok, q1, op_eq_i, c, decide_false, of_some, iteD_bl, Bool.false_eq_true, if_false, q2, q3]
end Rz
/-! RzG12 -/
set_option linter.all false
set_option maxRecDepth 100000
set_option exponentiation.threshold 20000
namespace Rz
/-! ### less, comprehensions that choose -/
theorem T_is_less : TT i_is_less = some d_is_less := rfl
theorem T_law_less : TT i_law_less = some d_law_less := rfl
theorem lt_num (a b : Rat) : (a.num * (b.den : Int) < b.num * (a.den : Int)) ↔ a < b := (Rat.lt_iff a b).symm
theorem less_body {C : Nat → List D → Gs → R D} {g : Gs} (a b : Rat) (ha : Sm a) (hb : Sm b) : evSs C [.ret (.op .lt (.op .mul (.ix (.var 0) (.lit (.int 0))) (.ix (.var 1) (.lit (.int 1)))) (.op .mul (.ix (.var 1) (.lit (.int 0))) (.ix (.var 0) (.lit (.int 1)))))] [.p (fr a), .p (fr b)] g = .ret (.bl (decide (a < b))) g := by
  have m1 : mulOk a.num b.den = true := mulOk_BB ha.num (by rw [natAbs_ofNat']; exact hb.den)
  have m2 : mulOk b.num a.den = true := mulOk_BB hb.num (by rw [natAbs_ofNat']; exact ha.den)
  simp only [evSs_cons, evSs_nil, evS_ret, evE_op, evE_ix, evE_var, evE_lit, getS_z, getS_s, slV_p, bind_ok, ixq0, ixq1, of_some, op_mul_i m1, op_mul_i m2, op_lt_i, lt_num, to_ok, thenS_ret]
theorem ev_is_less (k : Nat) (a b : Rat) (g : Gs) (ha : Sm a) (hb : Sm b) : evF TT (k + 1) i_is_less [fr a, fr b] g = .ok (.bl (decide (a < b))) g := by
  rw [evF_s T_is_less, runF_eq rfl]
  show outR (evSs (evF TT k) b_is_less [.p (fr a), .p (fr b)] g) = _
  rw [b_is_less, less_body a b ha hb, outR_ret]
theorem ev_law_less (k : Nat) (a b : Rat) (g : Gs) (ha : Sm a) (hb : Sm b) : evF TT (k + 1) i_law_less [fr a, fr b] g = .ok (.bl (decide (a < b))) g := by
  rw [evF_s T_law_less, runF_eq rfl]
  show outR (evSs (evF TT k) b_law_less [.p (fr a), .p (fr b)] g) = _
  rw [b_law_less, less_body a b ha hb, outR_ret]
theorem compL_filter {f c : Env → Gs → R D} {t : Tg} {α : Type} {env : Env} {g : Gs} (p : α → Bool) (y : α → D) (enc : α → D) : ∀ (l : List α), (∀ a ∈ l, ∃ e1, bindT t (enc a) env = some e1 ∧ c e1 g = .ok (.bl (p a)) g ∧ (p a = true → f e1 g = .ok (y a) g)) →
    compL f c t (l.map enc) env g = .ok ((l.filter p).map y) g
  | [], _ => rfl
  | a :: l, h => by
    obtain ⟨e1, h1, h2, h3⟩ := h a (List.mem_cons_self ..)
    have ih := compL_filter p y enc l fun b hb => h b (List.mem_cons_of_mem _ hb)
    cases e : p a with
    | true =>
      rw [e] at h2
      have h3 := h3 e
      rw [List.filter_cons_of_pos e]
      simp only [List.map_cons, compL, h1, h2, h3, ih]
    | false =>
      rw [e] at h2
      rw [List.filter_cons_of_neg (by rw [e]; exact Bool.false_ne_true)]
      simp only [List.map_cons, compL, h1, h2, ih]
theorem compD_f {C : Nat → List D → Gs → R D} {env : Env} {g : Gs} {e cnd : Ex} {t : Tg} {α : Type} (l : List α) (enc : α → D) (p : α → Bool) (y : α → D) (hn : l.length ≤ 1000000) (h : ∀ a ∈ l, ∃ e1, bindT t (enc a) (wipeS t.ix env) = some e1 ∧ evE C cnd e1 g = .ok (.bl (p a)) g ∧ (p a = true → evE C e e1 g = .ok (y a) g)) :
    compD C e t [cnd] env g (some (l.map enc)) = .ok (.lst ((l.filter p).map y)) g := by
  unfold compD
  have hz : Nat.ble (l.map enc).length lineN = true := Nat.ble_eq_true_of_le (by simpa [lineN] using hn)
  simp only [hz, if_true]
  rw [compL_filter (f := fun env g => evE C e env g) (c := fun env g => evC C [cnd] env g) (t := t) (env := wipeS t.ix env) (g := g) p y enc l h]
/-! ### numbers put at places -/
def putN : List Nat → (Nat → Rat) → Vc → Vc
  | [], _, x => x
  | p :: l, f, x => putN l (fun c => f (c + 1)) (up x p (f 0))
theorem putN_out {l : List Nat} : ∀ {f : Nat → Rat} {x : Vc} {q : Nat}, q ∉ l → putN l f x q = x q := by
  induction l with
  | nil => intro f x q _; rfl
  | cons p l ih =>
    intro f x q h
    rw [List.mem_cons, not_or] at h
    show putN l _ (up x p (f 0)) q = x q
    rw [ih h.2]
    simp only [up]; rw [if_neg h.1]
theorem putN_sum {n : Nat} (y : Vc) : ∀ {l : List Nat} {f : Nat → Rat} {x : Vc}, l.Nodup → (∀ p ∈ l, p < n) → (∀ p ∈ l, x p = 0) → sumN n (fun q => y q * putN l f x q) = sumN n (fun q => y q * x q) + sumN l.length fun c => y (l.getD c 0) * f c
  | [], f, x, _, _, _ => by simp only [putN, List.length_nil, sumN]; grind
  | p :: l, f, x, hd, hl, hx => by
    rw [List.nodup_cons] at hd
    have h0 : ∀ q ∈ l, up x p (f 0) q = 0 := fun q hq => by
      have : q ≠ p := fun e => hd.1 (e ▸ hq)
      simp only [up]; rw [if_neg this]; exact hx q (List.mem_cons_of_mem _ hq)
    have ih := putN_sum y (l := l) (f := fun c => f (c + 1)) (x := up x p (f 0)) hd.2 (fun q hq => hl q (List.mem_cons_of_mem _ hq)) h0
    show sumN n (fun q => y q * putN l _ (up x p (f 0)) q) = _
    rw [ih, List.length_cons, sumN_front]
    have e : sumN n (fun q => y q * up x p (f 0) q) = sumN n (fun q => y q * x q) + y p * f 0 := by
      have : (fun q => y q * up x p (f 0) q) = up (fun q => y q * x q) p (y p * f 0) := by
        funext q
        by_cases h : q = p
        · subst h; simp [up]
        · simp [up, h]
      rw [this, sumN_up, if_pos (hl p (List.mem_cons_self ..)), hx p (List.mem_cons_self ..)]; grind
    rw [e]
    have e2 : (fun c => y ((p :: l).getD (c + 1) 0) * f (c + 1)) = fun c => y (l.getD c 0) * f (c + 1) := rfl
    have e3 : (p :: l).getD 0 0 = p := rfl
    rw [e2, e3]; grind
end Rz
/-! RzG13 -/
set_option linter.all false
set_option maxRecDepth 100000
set_option exponentiation.threshold 20000
namespace Rz
theorem sumN_z {n : Nat} {x : Nat → Rat} (h : ∀ i, i < n → x i = 0) : sumN n x = 0 := by
  rw [sumN_congr h]; exact sumN_zero n
section
variable {n r e : Nat} {L : Nat → Vc} {q : Vc}
theorem zero_rb (n a : Nat) : Rb n a fun _ => 0 := ⟨1, by decide, Nat.one_le_two_pow, fun c _ => ⟨0, by simp, Nat.zero_le _⟩⟩
end
theorem ixRow {n p : Nat} (hp : p < n) (x : Vc) (g : Gs) : ixD g (row n x) (.int (p : Int)) = some (fr (x p)) := ixr hp g
theorem map_getD {α : Type} (l : List Nat) (f : Nat → α) : (List.range l.length).map (fun c => f (l.getD c 0)) = l.map f := map_range_getD l 0 f
theorem any_bl {α : Type} (l : List α) (p : α → Bool) : bi .any [.lst (l.map fun a => D.bl (p a))] = some (.bl (l.any p)) := by
  have : ∀ l : List α, blsOf (l.map fun a => D.bl (p a)) = some (l.map p) := fun l => by
    induction l with
    | nil => rfl
    | cons a l ih => show (blsOf (l.map fun a => D.bl (p a))).map (p a :: ·) = _; rw [ih]; rfl
  show (blsOf (l.map fun a => D.bl (p a))).map (fun bs => D.bl (bs.any id)) = _
  rw [this]
  simp [List.any_map]
theorem sm_zero : Sm 0 := (zero_rb 1 0).sm (by decide) (c := 0) (by decide)
end Rz
/-! RzG14 -/
set_option linter.all false
set_option maxRecDepth 100000
set_option exponentiation.threshold 20000
namespace Rz
/-! ### equations and corners by the law -/
theorem T_law_solved : TT i_law_solved = some d_law_solved := rfl
theorem lrow_snoc (i : Nat) (x : Nat → Rat) (q : Rat) (hi : i ≤ 1000) : op2 .add (lrow i x) (.lst [fr q]) = some (lrow (i + 1) (up x i q)) := by
  unfold lrow lf
  rw [op_add_l (by simp; omega), List.range_succ, List.map_append]
  congr 3
  · apply List.map_congr_left
    intro j hj
    have : j ≠ i := by have := List.mem_range.mp hj; omega
    simp [up, this]
  · simp [up]
theorem setx_lrow {C : Nat → List D → Gs → R D} {env : Env} {g : Gs} {i n a : Nat} {j e : Ex} {v : Rat} {x : Nat → Rat} (h1 : evE C e env g = .ok (fr v) g) (hs : getS env i = .o (lrow n x)) (h2 : evE C j env g = .ok (.int (a : Int)) g) (ha : a < n) :
    evS C (.setx i j e) env g = .nx (setS env i (.o (lrow n (up x a v)))) g := setx_lr h1 hs h2 ha
def lfBody : List St := [.ite (.op .eq (.call i_law_lead [.var 7]) (.var 3)) [.ret (.lit (.non))] [],
    .setx 6 (.call i_law_lead [.var 7]) (.ix (.var 7) (.var 3))]
theorem law_fill_stop (k m : Nat) (hm : m ≤ 900) (g : Gs) (a0 a1 a2 a4 a5 : Sl) (b f0 : Vc) (hb : Ld (m + 1) b) (c : ld (m + 1) b = m) : evSs (evF TT (k + 1)) lfBody [a0, a1, a2, .p (.int (m : Int)), a4, a5, .o (lrow m f0), .p (lrow (m + 1) b)] g = .ret .non g := by
  have l := ev_law_lead k (m + 1) b g (by omega)
  rw [hb.lead, c] at l
  simp only [ldI] at l
  rw [lfBody, evSs_cons, evS_ite]
  simp only [evE_op, evE_call, evEs_cons, evEs_nil, evE_var, getS_z, getS_s, slV_p, bind_ok, l, op_eq_i, of_some, decide_true, to_ok, iteD_bl, if_true, evSs_cons, evS_ret, evE_lit, thenS_ret]
theorem law_fill_go (k m : Nat) (hm : m ≤ 900) (g : Gs) (a0 a1 a2 a4 a5 : Sl) (b f0 : Vc) (hb : Ld (m + 1) b) (c : ¬ ld (m + 1) b = m) : evSs (evF TT (k + 1)) lfBody [a0, a1, a2, .p (.int (m : Int)), a4, a5, .o (lrow m f0), .p (lrow (m + 1) b)] g = .nx [a0, a1, a2, .p (.int (m : Int)), a4, a5, .o (lrow m (up f0 (ld (m + 1) b) (b m))), .p (lrow (m + 1) b)] g := by
  have l := ev_law_lead k (m + 1) b g (by omega)
  rw [hb.lead] at l
  simp only [ldI] at l
  have hlt := hb.lt
  have ix := ixl (n := m + 1) (i := m) (x := b) (by omega) g
  have ne : ¬ ((ld (m + 1) b : Nat) : Int) = (m : Int) := by omega
  have sx := setx_lrow (C := evF TT (k + 1)) (env := [a0, a1, a2, .p (.int (m : Int)), a4, a5, .o (lrow m f0), .p (lrow (m + 1) b)]) (g := g) (i := 6) (n := m) (a := ld (m + 1) b) (j := .call i_law_lead [.var 7]) (e := .ix (.var 7) (.var 3)) (v := b m) (x := f0)
    (by simp only [evE_ix, evE_var, getS_z, getS_s, slV_p, bind_ok, ix, of_some]) (by simp only [getS_s, getS_z]) (by simp only [evE_call, evEs_cons, evEs_nil, evE_var, getS_z, getS_s, slV_p, bind_ok, l]) (by omega)
  rw [lfBody, evSs_cons, evS_ite]
  simp only [evE_op, evE_call, evEs_cons, evEs_nil, evE_var, getS_z, getS_s, slV_p, bind_ok, l, op_eq_i, of_some, ne, decide_false, to_ok, iteD_bl, Bool.false_eq_true, if_false, evSs_nil, thenS_nx]
  rw [evSs_cons, sx]
  simp only [setS_s, setS_z, thenS_nx, evSs_nil]
theorem forL_cons {b : Env → Gs → SR} {t : Tg} {d : D} {ds : List D} {env e1 : Env} {g : Gs} (h : bindT t d env = some e1) : forL b t (d :: ds) env g = match b e1 g with
      | .nx e2 g2 => forL b t ds e2 g2
      | .cnt e2 g2 => forL b t ds e2 g2
      | .brk e2 g2 => .nx e2 g2
      | r => r := by
  rw [show forL b t (d :: ds) env g = (match bindT t d env with
    | none => SR.no
    | some e1 => match b e1 g with
      | .nx e2 g2 => forL b t ds e2 g2
      | .cnt e2 g2 => forL b t ds e2 g2
      | .brk e2 g2 => .nx e2 g2
      | r => r) from rfl, h]
theorem forL_nx {b : Env → Gs → SR} {t : Tg} {d : D} {ds : List D} {env e1 e2 : Env} {g g2 : Gs} (h : bindT t d env = some e1) (h2 : b e1 g = .nx e2 g2) : forL b t (d :: ds) env g = forL b t ds e2 g2 := by rw [forL_cons h, h2]
theorem forL_ret {b : Env → Gs → SR} {t : Tg} {d : D} {ds : List D} {env e1 : Env} {g g2 : Gs} {x : D} (h : bindT t d env = some e1) (h2 : b e1 g = .ret x g2) : forL b t (d :: ds) env g = .ret x g2 := by rw [forL_cons h, h2]
theorem law_fill_loop (k m : Nat) (hm : m ≤ 900) (g : Gs) (a0 a1 a2 a4 a5 : Sl) (B : List Vc) : ∀ (f0 : Vc) (y7 : Sl), (∀ b ∈ B, Ld (m + 1) b) →
    (fillF m B f0 = none ∧ forL (bodyOf (evF TT (k + 1)) lfBody) (.nm 7) (B.map (lrow (m + 1))) [a0, a1, a2, .p (.int (m : Int)), a4, a5, .o (lrow m f0), y7] g = .ret .non g) ∨
    (∃ f z7, fillF m B f0 = some f ∧ forL (bodyOf (evF TT (k + 1)) lfBody) (.nm 7) (B.map (lrow (m + 1))) [a0, a1, a2, .p (.int (m : Int)), a4, a5, .o (lrow m f0), y7] g = .nx [a0, a1, a2, .p (.int (m : Int)), a4, a5, .o (lrow m f), z7] g) := by
  induction B with
  | nil => intro f0 y7 _; exact .inr ⟨f0, y7, rfl, rfl⟩
  | cons b B ih =>
    intro f0 y7 h
    have hb := h b (List.mem_cons_self ..)
    rw [List.map_cons]
    by_cases c : ld (m + 1) b = m
    · refine .inl ⟨by unfold fillF; rw [if_pos c], ?_⟩
      exact forL_ret (e1 := [a0, a1, a2, .p (.int (m : Int)), a4, a5, .o (lrow m f0), .p (lrow (m + 1) b)]) rfl (law_fill_stop k m hm g a0 a1 a2 a4 a5 b f0 hb c)
    · have e1 : fillF m (b :: B) f0 = fillF m B (up f0 (ld (m + 1) b) (b m)) := by
        show (if ld (m + 1) b = m then none else fillF m B (up f0 (ld (m + 1) b) (b m))) = _
        rw [if_neg c]
      rw [e1, forL_nx (b := bodyOf (evF TT (k + 1)) lfBody) (t := .nm 7) (env := [a0, a1, a2, .p (.int (m : Int)), a4, a5, .o (lrow m f0), y7]) (d := lrow (m + 1) b) (e1 := [a0, a1, a2, .p (.int (m : Int)), a4, a5, .o (lrow m f0), .p (lrow (m + 1) b)]) rfl (law_fill_go k m hm g a0 a1 a2 a4 a5 b f0 hb c)]
      exact ih (up f0 (ld (m + 1) b) (b m)) _ fun d hd => h d (List.mem_cons_of_mem _ hd)
def solL (m : Nat) : Option Vc → D
  | none => .non
  | some f => lrow m f
theorem b_law_solved_eq : b_law_solved = [.par [(false, 2), (false, 3)] [.lst [], .bi .len [.ix (.var 0) (.lit (.int 0))]], .for_ (.tp [(.nm 4), (.nm 5)]) .zip [.var 0,
    .var 1] [.asg 2 (.call i_law_grown [.var 2, .op .add (.bi .list [.var 4]) (.lst [.var 5])])], .own 6 (.op .mul (.lst [.tup [.lit (.int 0),
    .lit (.int 1)]]) (.var 3)), .for_ (.nm 7) .seq [.var 2] lfBody, .frz [6], .ret (.var 6)] := rfl
theorem ev_law_solved (k r m e : Nat) (A : Nat → Vc) (q : Nat → Rat) (gd : D) (g : Gs) (hr0 : 0 < r) (hr : r ≤ 3) (hm : m ≤ 900) (hg : Sq gd r fun a => fr (q a)) (he : e ≤ 650) (hR : ∀ a, a < r → Rb (m + 1) e (up (A a) m (q a))) :
    evF TT (k + 5) i_law_solved [lf r fun a => lrow m (A a), gd] g = .ok (solL m (solve m (augs m r A q))) g := by
  rw [evF_s T_law_solved, runF_eq rfl]
  show outR (evSs (evF TT (k + 4)) b_law_solved [.p (lf r fun a => lrow m (A a)), .p gd, .u, .u, .u, .u, .u, .u] g) = _
  have hRm : ∀ i, i ≤ r → ∀ x ∈ augs m i A q, Rb (m + 1) e x := fun i hi x hx => by
    obtain ⟨a, ha, rfl⟩ := List.mem_map.mp hx
    exact hR a (by have := List.mem_range.mp ha; omega)
  have hal : ∀ i, (augs m i A q).length = i := fun i => by unfold augs; simp
  obtain ⟨env', g', f1, hg', y4, y5, he'⟩ := forL_n (t := .tp [(.nm 4), (.nm 5)]) (f := fun a => .tup [lrow m (A a), fr (q a)]) (b := bodyOf (evF TT (k + 4)) [.asg 2 (.call i_law_grown [.var 2, .op .add (.bi .list [.var 4]) (.lst [.var 5])])]) (env := [.p (lf r fun a => lrow m (A a)), .p gd, .p (.lst []), .p (.int (m : Int)), .u, .u, .u, .u]) (g := g)
    (fun i en g' => g' = g ∧ ∃ y4 y5, en = [.p (lf r fun a => lrow m (A a)), .p gd, .p (basL (m + 1) (basis (m + 1) (augs m i A q))), .p (.int (m : Int)), y4, y5, .u, .u]) r (fun i en g' hi ⟨hg', y4, y5, he'⟩ => by
      subst he' hg'
      have bl := basis_le (m + 1) (augs m i A q)
      rw [hal] at bl
      have bb := BB3.base (augs m i A q) (by rw [hal]; omega) (hRm i (by omega))
      obtain ⟨hb, hs⟩ := bb.rows (by omega) he
      have w := ev_law_grown k (m + 1) e _ (basis (m + 1) (augs m i A q)) (up (A i) m (q i)) g' (by omega) (by omega) hb (hR i hi) hs
      have ht : bi .list [lrow m (A i)] = some (lrow m (A i)) := rfl
      have sn := lrow_snoc m (A i) (q i) (by omega)
      refine ⟨_, rfl, _, g', .inl ?_, rfl, .p (lrow m (A i)), .p (fr (q i)), rfl⟩
      rw [bodyOf_eq, augs_succ, basis_snoc]
      simp only [evSs_cons, evSs_nil, evS_asg, evE_call, evE_op, evE_bi, evE_lst, evEs_cons, evEs_nil, evE_var, getS_z, getS_s, slV_p, bind_ok, ht, of_some, sn, w, to_ok, setS_s, setS_z, thenS_nx]) ⟨rfl, .u, .u, rfl⟩
  subst he' hg'
  have x0 : ixD g' (lf r fun a => lrow m (A a)) (.int 0) = some (lrow m (A 0)) := ix_lf (i := 0) hr0
  have hlm : bi .len [lrow m (A 0)] = some (.int (m : Int)) := len_lf _ _
  have hz : items .zip [lf r fun a => lrow m (A a), gd] = some ((List.range r).map fun a => .tup [lrow m (A a), fr (q a)]) := items_zip (sq_lf _ _) hg
  have i2 : items .seq [basL (m + 1) (basis (m + 1) (augs m r A q))] = some ((basis (m + 1) (augs m r A q)).map (lrow (m + 1))) := rfl
  have z := zeros_l m (by omega)
  have il : isLst (lrow m fun _ => 0) = true := rfl
  have fl := law_fill_loop (k + 3) m hm g' (.p (lf r fun a => lrow m (A a))) (.p gd) (.p (basL (m + 1) (basis (m + 1) (augs m r A q)))) y4 y5 (basis (m + 1) (augs m r A q)) (fun _ => 0) .u fun b hb => (basis_bas (m + 1) _).lds b hb
  unfold solve
  rcases fl with ⟨q1, q2⟩ | ⟨f, z7, q1, q2⟩
  · rw [q1]
    simp only [b_law_solved_eq, evSs_cons, evSs_nil, evS_par, evEs_cons, evEs_nil, evE_lst, evE_bi, evE_ix, evE_var, evE_lit, getS_z, getS_s, slV_p, bind_ok, x0, hlm, of_some, parD_ok, setPar_cons, setPar_nil, Bool.false_and, Bool.false_eq_true, if_false, setS_s, setS_z, nxO_some, thenS_nx, evS_for, fork_ok, hz, forD_some, f1, evS_own, evE_op, evE_tup, z, to_ok, il, if_true, i2, q2, thenS_ret, outR_ret]
    rfl
  · rw [q1]
    simp only [b_law_solved_eq, evSs_cons, evSs_nil, evS_par, evEs_cons, evEs_nil, evE_lst, evE_bi, evE_ix, evE_var, evE_lit, getS_z, getS_s, slV_p, bind_ok, x0, hlm, of_some, parD_ok, setPar_cons, setPar_nil, Bool.false_and, Bool.false_eq_true, if_false, setS_s, setS_z, nxO_some, thenS_nx, evS_for, fork_ok, hz, forD_some, f1, evS_own, evE_op, evE_tup, z, to_ok, il, if_true, i2, q2, evS_frz, frz_one, frzS_s, frzS_z, fr_o, evS_ret, thenS_ret, outR_ret]
    rfl
end Rz
/-! RzG15 -/
set_option linter.all false
set_option maxRecDepth 100000
set_option exponentiation.threshold 20000
namespace Rz
theorem nil_eq {l : List D} (h : ∀ d ∈ l, Pl 59 d) : op2 .eq (.lst l) (.lst []) = some (.bl l.isEmpty) := by
  cases l with
  | nil => rfl
  | cons d l => exact eqv_cons_nil (pl_lst h).shp
end Rz
/-! RzG16 -/
set_option linter.all false
set_option maxRecDepth 400000
set_option exponentiation.threshold 20000
namespace Rz
end Rz
/-! RzG17 -/
set_option linter.all false
set_option maxRecDepth 100000
set_option exponentiation.threshold 20000
namespace Rz
def dotN (n : Nat) (y x : Vc) : Rat := sumN n fun i => y i * x i
theorem nil_ne {l : List D} (h : ∀ d ∈ l, Pl 59 d) : op2 .ne (.lst l) (.lst []) = some (.bl (!l.isEmpty)) := by
  have sh : shp2 (.lst l) (.lst []) = true := by unfold shp2; rw [(pl_lst h).shp]; rfl
  show (if shp2 (.lst l) (.lst []) = true then some (D.bl (!D.eqv (.lst l) (.lst []))) else none) = _
  rw [if_pos sh]
  cases l <;> rfl
theorem pl_ints (l : List Nat) : ∀ d ∈ l.map (fun (p : Nat) => D.int (p : Int)), Pl 59 d := fun d hd => by
  obtain ⟨p, _, rfl⟩ := List.mem_map.mp hd
  exact pl_int 59 _
theorem ints_nil (l : List Nat) : op2 .eq (.lst (l.map fun (p : Nat) => D.int (p : Int))) (.lst []) = some (.bl l.isEmpty) := by
  rw [nil_eq (pl_ints l)]
  cases l <;> rfl
end Rz
/-! RzG18 -/
set_option linter.all false
set_option maxRecDepth 100000
set_option exponentiation.threshold 20000
namespace Rz
end Rz
/-! RzG19 -/
set_option linter.all false
set_option maxRecDepth 100000
set_option exponentiation.threshold 20000
namespace Rz
theorem max2_i (x y : Int) : bi .max2 [.int x, .int y] = some (.int (max x y)) := by
  show some (D.int (if y > x then y else x)) = _
  congr 2
  omega
def bigQ (q : Rat) : Bool := decide (100000000000000000000000000000000000000 < max q.num (q.den : Int))
theorem amt_of {r : Nat} {q : Vc} (h : ((List.range r).filter fun a => bigQ (q a)).isEmpty = true) (h0 : ∀ a, a < r → 0 ≤ q a) : ∀ a, a < r → Amt (q a) := fun a ha => by
  have e := List.isEmpty_iff.mp h
  have := List.filter_eq_nil_iff.mp e a (List.mem_range.mpr ha)
  unfold bigQ at this
  simp only [decide_eq_true_eq] at this
  exact ⟨h0 a ha, by omega, by omega⟩
end Rz
/-! RzG20 -/
set_option linter.all false
set_option maxRecDepth 100000
set_option exponentiation.threshold 20000
namespace Rz
section
end
end Rz
/-! RzG21 -/
set_option linter.all false
set_option maxRecDepth 100000
set_option exponentiation.threshold 20000
namespace Rz
end Rz
/-! RzG22 -/
set_option linter.all false
set_option maxRecDepth 100000
set_option exponentiation.threshold 20000
namespace Rz
/-! ### a vessel is never emptied: the diagonal of a table -/
theorem pt_lt {V : Ves} {n : Nat} {w : Nat → Int} {s : Stp} (hV : ∀ i, i < n → VOk V i) (h : WOk V n w) (hs : s.ok n) : pt V w s < 1 := by
  have key : ∀ (a : Nat) (m : Int), a < n → m ≤ w a - 1 → (m : Rat) / (w a : Rat) < 1 := fun a m ha h1 => by
    have := h.lo a ha; have := (hV a ha).f1
    have hw : 0 < w a := by omega
    have hp : (0 : Rat) < (w a : Rat) := by exact_mod_cast hw
    have hm : (m : Rat) ≤ ((w a - 1 : Int) : Rat) := Rat.intCast_le_intCast.mpr h1
    have e : ((w a - 1 : Int) : Rat) = (w a : Rat) - 1 := by push_cast; rfl
    rw [e] at hm
    have lt : (m : Rat) < (w a : Rat) := by grind
    rw [Rat.div_lt_iff hp]
    grind
  cases s with
  | fill a z => exact (by decide : (0 : Rat) < 1)
  | tip a =>
    have ha : a < n := hs
    have := (hV a ha).f1
    exact key a _ ha (by simp only [mv]; omega)
  | pour a b z =>
    obtain ⟨ha, hb, hab, hz⟩ := hs
    have := (hV a ha).f1
    exact key a _ ha (by simp only [mv]; omega)
theorem mul_pos_lt {x q : Rat} (hx : 0 < x) (hq : q < 1) : 0 < x - x * q := by
  have h1 : 0 < 1 - q := by grind
  have := Rat.mul_pos hx h1
  grind
theorem dx_pos {V : Ves} {n : Nat} {w : Nat → Int} {x : Nat → Rat} {s : Stp} (hV : ∀ i, i < n → VOk V i) (hw : WOk V n w) (hs : s.ok n) (h0 : ∀ i, i < n → 0 ≤ x i) {i : Nat} (hi : i < n) (hp : 0 < x i) : 0 < dx V w x s i := by
  have l := pt_lt hV hw hs
  have r := pt_rd hV hw hs
  cases s with
  | fill a z => exact hp
  | tip a =>
    simp only [dx, up]
    by_cases c : i = a
    · subst c; rw [if_pos rfl]; exact mul_pos_lt hp l
    · rw [if_neg c]; exact hp
  | pour a b z =>
    obtain ⟨ha, hb, hab, hz⟩ := hs
    simp only [dx, up]
    by_cases c : i = b
    · subst c
      rw [if_pos rfl]
      have := Rat.mul_nonneg (h0 a ha) r.lo
      grind
    · rw [if_neg c]
      by_cases c2 : i = a
      · subst c2; rw [if_pos rfl]; exact mul_pos_lt hp l
      · rw [if_neg c2]; exact hp
theorem dxs_pos {V : Ves} {n M : Nat} (hV : ∀ i, i < n → VOk V i) {i : Nat} (hi : i < n) : ∀ (ss : List Stp) (w : Nat → Int) (x : Nat → Rat) (D : Nat), WOk V n w → (∀ s ∈ ss, s.ok n) → Dr D M n x → 0 < x i → 0 < dxs V w x ss i
  | [], _, _, _, _, _, _, h => h
  | s :: ss, w, x, D, hw, hs, hd, h => by
    have h1 := (dx_dr hV hw (hs s (List.mem_cons_self ..)) hd).1
    exact dxs_pos hV hi ss (wn V w s) (dx V w x s) _ (wn_ok hV hw (hs s (List.mem_cons_self ..))) (fun t ht => hs t (List.mem_cons_of_mem _ ht)) h1 (dx_pos hV hw (hs s (List.mem_cons_self ..)) hd.lo hi h)
/-- of the dirt of a vessel a part stays in it -/
theorem tb_diag {n : Nat} {V : Ves} {ss : List Stp} (h : WayOk n V ss) {i : Nat} (hi : i < n) : 0 < Tb V ss i i :=
  dxs_pos (M := 1) h.vok hi ss V.beg (idN i) 1 (beg_ok h.vok) h.sok (id_dr n i) (by show (0 : Rat) < idN i i; unfold idN; simp; decide)
end Rz
/-! RzG23 -/
set_option linter.all false
set_option maxRecDepth 100000
set_option exponentiation.threshold 20000
namespace Rz
/-! ### full rank by a trivial kernel -/
theorem fill_at (n j0 : Nat) : ∀ (B : List Vc), Bas n B → (∀ b ∈ B, ld n b ≠ j0) → ∃ x : Vc, x j0 = 1 ∧ (∀ b ∈ B, x (ld n b) = - b j0) ∧ ∀ i, i ≠ j0 → (∀ b ∈ B, ld n b ≠ i) → x i = 0
  | [], _, _ => ⟨up (fun _ => 0) j0 1, by simp [up], fun b hb => (List.not_mem_nil hb).elim, fun i hi _ => by simp [up, hi]⟩
  | b :: B, h, hj => by
    obtain ⟨x, x1, x2, x3⟩ := fill_at n j0 B h.tail fun c hc => hj c (List.mem_cons_of_mem _ hc)
    have nb := hj b (List.mem_cons_self ..)
    refine ⟨up x (ld n b) (- b j0), ?_, fun c hc => ?_, fun i hi hn => ?_⟩
    · simp only [up]; rw [if_neg fun e => nb e.symm]; exact x1
    · rcases List.mem_cons.mp hc with rfl | hc
      · simp [up]
      · simp only [up]; rw [if_neg (h.ne c hc)]; exact x2 c hc
    · have n1 := hn b (List.mem_cons_self ..)
      simp only [up]; rw [if_neg fun e => n1 e.symm]
      exact x3 i hi fun c hc => hn c (List.mem_cons_of_mem _ hc)
theorem sub_len : ∀ (A B : List Nat), A.Nodup → (∀ a ∈ A, a ∈ B) → A.length ≤ B.length
  | [], _, _, _ => Nat.zero_le _
  | a :: A, B, hA, h => by
    rw [List.nodup_cons] at hA
    have ha := h a (List.mem_cons_self ..)
    have ih := sub_len A (B.erase a) hA.2 fun c hc => by
      have : c ≠ a := fun e => hA.1 (e ▸ hc)
      exact (List.mem_erase_of_ne this).mpr (h c (List.mem_cons_of_mem _ hc))
    have := List.length_erase_of_mem ha
    have : 0 < B.length := List.length_pos_of_mem ha
    simp only [List.length_cons]; omega
theorem basis_ann {n j0 : Nat} {B : List Vc} {x : Vc} (hB : Bas n B) (hj : j0 < n) (hn : ∀ b ∈ B, ld n b ≠ j0) (x1 : x j0 = 1) (x2 : ∀ b ∈ B, x (ld n b) = - b j0) (x3 : ∀ i, i ≠ j0 → (∀ b ∈ B, ld n b ≠ i) → x i = 0) :
    ∀ y, Sp n B y → sumN n (fun i => y i * x i) = 0 := by
  have hb : ∀ b ∈ B, sumN n (fun i => b i * x i) = 0 := fun b hb => by
    have ldb := hB.lds b hb
    have nb := hn b hb
    have z : ∀ i, i < n → b i * x i = up (up (fun _ => (0 : Rat)) j0 (b j0)) (ld n b) (- b j0) i := fun i hi => by
      by_cases e1 : i = ld n b
      · rw [e1, x2 b hb, ldb.one]; simp [up]
      · simp only [up]; rw [if_neg e1]
        by_cases e2 : i = j0
        · rw [if_pos e2, e2, x1]; grind
        · rw [if_neg e2]
          by_cases e3 : ∃ d ∈ B, ld n d = i
          · obtain ⟨d, hd, rfl⟩ := e3
            have : b (ld n d) = 0 := off_of hB b hb d hd fun e => e1 e.symm
            rw [this]; grind
          · have : x i = 0 := x3 i e2 fun d hd e => e3 ⟨d, hd, e⟩
            rw [this]; grind
    rw [sumN_congr z, sumN_up, if_pos ldb.lt, sumN_up, if_pos hj, sumN_z fun _ _ => rfl]
    have : up (fun _ => (0 : Rat)) j0 (b j0) (ld n b) = 0 := by simp only [up]; rw [if_neg nb]
    rw [this]; grind
  clear hB hn x1 x2 x3
  intro y
  induction B generalizing y with
  | nil =>
    intro k
    exact sumN_z fun i hi => by rw [k i hi]; grind
  | cons b B ih =>
    rintro ⟨s, k⟩
    have k1 := ih (fun c hc => hb c (List.mem_cons_of_mem _ hc)) _ k
    have k2 := hb b (List.mem_cons_self ..)
    have e : (fun i => y i * x i) = fun i => less y b s i * x i + s * (b i * x i) := by
      funext i; simp only [less]; grind
    rw [e, sumN_add, k1, sumN_mull, k2]; grind
/-- rows that only nothing is told nothing by: as many leading ones as places -/
theorem rank_full {n : Nat} {R : List Vc} (h : ∀ x : Vc, (∀ r ∈ R, sumN n (fun i => r i * x i) = 0) → ∀ i, i < n → x i = 0) : (basis n R).length = n := by
  have hB := basis_bas n R
  have hl := hB.len
  by_cases c : (basis n R).length = n
  · exact c
  · exfalso
    have : ∃ j0, j0 < n ∧ ∀ b ∈ basis n R, ld n b ≠ j0 := Classical.byContradiction fun no => by
      have all : ∀ a ∈ List.range n, a ∈ (basis n R).map (ld n) := fun a ha => Classical.byContradiction fun na => no ⟨a, List.mem_range.mp ha, fun b hb e => na (List.mem_map.mpr ⟨b, hb, e⟩)⟩
      have := sub_len _ _ List.nodup_range all
      rw [List.length_map, List.length_range] at this
      omega
    obtain ⟨j0, hj, hn⟩ := this
    obtain ⟨x, x1, x2, x3⟩ := fill_at n j0 _ hB hn
    have hs := basis_ann hB hj hn x1 x2 x3
    have k := h x (fun r hr => hs r ((basis_sp n R r).mpr (Sp.mem hr))) j0 hj
    rw [x1] at k
    exact absurd k (by decide)
end Rz
/-! RzG24 -/
set_option linter.all false
set_option maxRecDepth 100000
set_option exponentiation.threshold 20000
namespace Rz
/-! ### tables of ways, more and more rounds -/
structure Tbl (n : Nat) (P : Nat → Nat → Rat) : Prop where
  n0 : 0 < n
  n3 : n ≤ 3
  nn : ∀ i j, i < n → j < n → 0 ≤ P i j
  le : ∀ i, i < n → sumN n (P i) ≤ 1
  dg : ∀ i, i < n → 0 < P i i
theorem tbl_of {n : Nat} {V : Ves} {ss : List Stp} (h : WayOk n V ss) : Tbl n (Tb V ss) := by
  obtain ⟨W, hW, sh⟩ := way_sh h
  exact ⟨h.n0, h.n3, fun i j hi hj => (sh.dr i hi).lo j hj, fun i hi => by have := (sh.dr i hi).sum; simpa using this, fun i hi => tb_diag h hi⟩
theorem has_max {n : Nat} (x : Vc) (h0 : 0 < n) : ∃ m, m < n ∧ ∀ j, j < n → x j ≤ x m := by
  induction n with
  | zero => omega
  | succ n ih =>
    by_cases c : n = 0
    · subst c
      exact ⟨0, by omega, fun j hj => by have : j = 0 := by omega
                                         subst this; exact Rat.le_refl⟩
    · obtain ⟨m, hm, k⟩ := ih (by omega)
      by_cases e : x m ≤ x n
      · refine ⟨n, by omega, fun j hj => ?_⟩
        by_cases q : j = n
        · subst q; exact Rat.le_refl
        · exact Rat.le_trans (k j (by omega)) e
      · refine ⟨m, by omega, fun j hj => ?_⟩
        by_cases q : j = n
        · subst q; grind
        · exact k j (by omega)
/-- where a fixed row of numbers is greatest, nothing is lost, and all places ahead are as great -/
theorem max_step {n : Nat} {P : Nat → Nat → Rat} (T : Tbl n P) {x : Vc} {M : Rat} (hx : ∀ i, i < n → x i = sumN n fun j => P i j * x j) (hM : ∀ j, j < n → x j ≤ M) (hp : 0 < M) {i : Nat} (hi : i < n) (e : x i = M) : sumN n (P i) = 1 ∧ ∀ j, j < n → P i j ≠ 0 → x j = M := by
  have t0 : ∀ j, j < n → 0 ≤ P i j * (M - x j) := fun j hj => Rat.mul_nonneg (T.nn i j hi hj) (by have := hM j hj; grind)
  have es : sumN n (fun j => P i j * (M - x j)) = M * sumN n (P i) - M := by
    have e1 : (fun j => P i j * (M - x j)) = fun j => M * P i j + -1 * (P i j * x j) := by funext j; grind
    have hxi := hx i hi
    rw [e1, sumN_add, sumN_mull, sumN_mull, ← hxi, e]; grind
  have le := T.le i hi
  have up : M * sumN n (P i) ≤ M := by
    have := Rat.mul_le_mul_of_nonneg_left le (Rat.le_of_lt hp)
    grind
  have nn := sumN_nn t0
  rw [es] at nn
  have eq : M * sumN n (P i) = M := by grind
  have s1 : sumN n (P i) = 1 := by
    have h0 : M * (sumN n (P i) - 1) = 0 := by grind
    rcases Rat.mul_eq_zero.mp h0 with z | z
    · rw [z] at hp; exact absurd hp (by decide)
    · grind
  refine ⟨s1, fun j hj hne => ?_⟩
  have z : P i j * (M - x j) = 0 := by
    have a := sumN_le t0 hj
    rw [es] at a
    have b := t0 j hj
    have : P i j * (M - x j) ≤ 0 := by
      have a' : P i j * (M - x j) ≤ M * sumN n (P i) - M := a
      rw [eq] at a'
      grind
    grind
  rcases Rat.mul_eq_zero.mp z with z | z
  · exact absurd z hne
  · grind
/-! ### the pattern of a table -/
def patB (P : Nat → Nat → Rat) (i j : Nat) : Bool := !decide (P i j = 0)
/-- a way of at most two edges -/
def rcB (n : Nat) (B : Nat → Nat → Bool) (i j : Nat) : Bool := (List.range n).any fun k => B i k && B k j
def mat3 (a b c d e f : Bool) (i j : Nat) : Bool := match i, j with
  | 0, 1 => a
  | 0, 2 => b
  | 1, 0 => c
  | 1, 2 => d
  | 2, 0 => e
  | 2, 1 => f
  | _, _ => true
def bls : List Bool := [false, true]
theorem bls_mem (b : Bool) : b ∈ bls := by cases b <;> decide
/-- a test of all patterns -/
def allPat (p : (Nat → Nat → Bool) → Bool) : Bool := bls.all fun a => bls.all fun b => bls.all fun c => bls.all fun d => bls.all fun e => bls.all fun f => p (mat3 a b c d e f)
theorem allPat_ok {p : (Nat → Nat → Bool) → Bool} (h : allPat p = true) (a b c d e f : Bool) : p (mat3 a b c d e f) = true := by
  unfold allPat at h
  have h := List.all_eq_true.mp h a (bls_mem a)
  have h := List.all_eq_true.mp h b (bls_mem b)
  have h := List.all_eq_true.mp h c (bls_mem c)
  have h := List.all_eq_true.mp h d (bls_mem d)
  have h := List.all_eq_true.mp h e (bls_mem e)
  exact List.all_eq_true.mp h f (bls_mem f)
def trB (n : Nat) (B : Nat → Nat → Bool) : Bool := (List.range n).all fun i => (List.range n).all fun k => (List.range n).all fun j => !(rcB n B i k && rcB n B k j) || rcB n B i j
theorem trB_all : (List.range 4).all (fun n => allPat (trB n)) = true := by decide +kernel
theorem trans3 {n : Nat} (hn : n < 4) (a b c d e f : Bool) {i k j : Nat} (hi : i < n) (hk : k < n) (hj : j < n) (h1 : rcB n (mat3 a b c d e f) i k = true) (h2 : rcB n (mat3 a b c d e f) k j = true) : rcB n (mat3 a b c d e f) i j = true := by
  have h := allPat_ok (List.all_eq_true.mp trB_all n (List.mem_range.mpr hn)) a b c d e f
  unfold trB at h
  have h := List.all_eq_true.mp h i (List.mem_range.mpr hi)
  have h := List.all_eq_true.mp h k (List.mem_range.mpr hk)
  have h := List.all_eq_true.mp h j (List.mem_range.mpr hj)
  rw [h1, h2] at h
  simpa using h
theorem mat_of {n : Nat} {B : Nat → Nat → Bool} (hn : n ≤ 3) (hd : ∀ i, i < n → B i i = true) : ∀ i j, i < n → j < n → B i j = mat3 (B 0 1) (B 0 2) (B 1 0) (B 1 2) (B 2 0) (B 2 1) i j := fun i j hi hj => by
  have : i = 0 ∨ i = 1 ∨ i = 2 := by omega
  have : j = 0 ∨ j = 1 ∨ j = 2 := by omega
  rcases ‹i = 0 ∨ i = 1 ∨ i = 2› with rfl | rfl | rfl <;> rcases ‹j = 0 ∨ j = 1 ∨ j = 2› with rfl | rfl | rfl <;> first | rfl | exact hd _ hi
theorem rcB_congr {n : Nat} {B C : Nat → Nat → Bool} (h : ∀ i j, i < n → j < n → B i j = C i j) {i j : Nat} (hi : i < n) (hj : j < n) : rcB n B i j = rcB n C i j := by
  unfold rcB
  rw [Bool.eq_iff_iff, List.any_eq_true, List.any_eq_true]
  constructor <;> rintro ⟨k, hk, e⟩ <;> refine ⟨k, hk, ?_⟩ <;> have hk' := List.mem_range.mp hk
  · rw [← h i k hi hk', ← h k j hk' hj]; exact e
  · rw [h i k hi hk', h k j hk' hj]; exact e
theorem rc_trans {n : Nat} {B : Nat → Nat → Bool} (hn : n ≤ 3) (hd : ∀ i, i < n → B i i = true) {i k j : Nat} (hi : i < n) (hk : k < n) (hj : j < n) (h1 : rcB n B i k = true) (h2 : rcB n B k j = true) : rcB n B i j = true := by
  have m := mat_of hn hd
  rw [rcB_congr m hi hk] at h1
  rw [rcB_congr m hk hj] at h2
  rw [rcB_congr m hi hj]
  exact trans3 (by omega) _ _ _ _ _ _ hi hk hj h1 h2
theorem rc_edge {n : Nat} {B : Nat → Nat → Bool} (hd : ∀ i, i < n → B i i = true) {i j : Nat} (hi : i < n) (hj : j < n) (h : B i j = true) : rcB n B i j = true :=
  List.any_eq_true.mpr ⟨i, List.mem_range.mpr hi, by rw [hd i hi, h]; rfl⟩
/-- the places behind a place -/
def rchN (n : Nat) (B : Nat → Nat → Bool) (i : Nat) : List Nat := (List.range n).filter fun j => rcB n B i j
end Rz
/-! RzG25 -/
set_option linter.all false
set_option maxRecDepth 100000
set_option exponentiation.threshold 20000
namespace Rz
/-! ### rests: places between which all goes round -/
theorem mem_rch {n : Nat} {B : Nat → Nat → Bool} {i j : Nat} : j ∈ rchN n B i ↔ j < n ∧ rcB n B i j = true := by
  unfold rchN
  rw [List.mem_filter, List.mem_range]
theorem nd_rch (n : Nat) (B : Nat → Nat → Bool) (i : Nat) : (rchN n B i).Nodup := List.Nodup.sublist List.filter_sublist List.nodup_range
def restP (n : Nat) (B : Nat → Nat → Bool) (u : Nat → Bool) (p : Nat) : Prop := (∀ o, o ∈ rchN n B p → rchN n B o = rchN n B p) ∧ ∀ o, o ∈ rchN n B p → u o = true
section
variable {n : Nat} {B : Nat → Nat → Bool} {u : Nat → Bool}
theorem rch_self (hd : ∀ i, i < n → B i i = true) {i : Nat} (hi : i < n) : i ∈ rchN n B i := mem_rch.mpr ⟨hi, rc_edge hd hi hi (hd i hi)⟩
theorem rch_sub (hn : n ≤ 3) (hd : ∀ i, i < n → B i i = true) {p o : Nat} (hp : p < n) (ho : o ∈ rchN n B p) : ∀ a ∈ rchN n B o, a ∈ rchN n B p := fun a ha => by
  obtain ⟨o1, o2⟩ := mem_rch.mp ho
  obtain ⟨a1, a2⟩ := mem_rch.mp ha
  exact mem_rch.mpr ⟨a1, rc_trans hn hd hp o1 a1 o2 a2⟩
theorem rch_eq {p o : Nat} (h : ∀ a, a < n → rcB n B o a = rcB n B p a) : rchN n B o = rchN n B p := by
  unfold rchN
  exact List.filter_congr fun a ha => h a (List.mem_range.mp ha)
/-- a set that nothing leaves holds a rest, where no part is lost in it -/
theorem rest_in (hn : n ≤ 3) (hd : ∀ i, i < n → B i i = true) {A : Nat → Prop} (cl : ∀ i, i < n → A i → ∀ j, j < n → B i j = true → A j) (hu : ∀ i, i < n → A i → u i = true) :
    ∀ (m p : Nat), p < n → A p → (rchN n B p).length ≤ m → ∃ q, q < n ∧ A q ∧ restP n B u q
  | 0, p, hp, _, hl => by
    have := List.length_pos_of_mem (rch_self hd hp)
    omega
  | m + 1, p, hp, ap, hl => by
    have inA : ∀ o, o ∈ rchN n B p → o < n ∧ A o := fun o ho => by
      obtain ⟨o1, o2⟩ := mem_rch.mp ho
      obtain ⟨k, hk, e⟩ := List.any_eq_true.mp o2
      rw [Bool.and_eq_true] at e
      have hk := List.mem_range.mp hk
      exact ⟨o1, cl k hk (cl p hp ap k hk e.1) o o1 e.2⟩
    by_cases c : ∀ o, o ∈ rchN n B p → rchN n B o = rchN n B p
    · exact ⟨p, hp, ap, c, fun o ho => hu o (inA o ho).1 (inA o ho).2⟩
    · obtain ⟨o, ho, ne⟩ : ∃ o, o ∈ rchN n B p ∧ rchN n B o ≠ rchN n B p := Classical.byContradiction fun no => c fun o ho => Classical.byContradiction fun ne => no ⟨o, ho, ne⟩
      have sub := rch_sub hn hd hp ho
      obtain ⟨a, ha, na⟩ : ∃ a, a ∈ rchN n B p ∧ a ∉ rchN n B o := Classical.byContradiction fun no => ne (rch_eq fun a ha => by
        cases e : rcB n B p a with
        | true => exact Classical.byContradiction fun z => no ⟨a, mem_rch.mpr ⟨ha, e⟩, fun q => z (mem_rch.mp q).2⟩
        | false =>
          cases e2 : rcB n B o a with
          | false => rfl
          | true =>
            have := (mem_rch.mp (sub a (mem_rch.mpr ⟨ha, e2⟩))).2
            rw [e] at this; cases this)
      have lt := sub_len (a :: rchN n B o) (rchN n B p) (List.nodup_cons.mpr ⟨na, nd_rch n B o⟩) fun b hb => by
        rcases List.mem_cons.mp hb with rfl | hb
        · exact ha
        · exact sub b hb
      simp only [List.length_cons] at lt
      exact rest_in hn hd cl hu m o (inA o ho).1 (inA o ho).2 (by omega)
end
/-! ### numbers that a round leaves as they are -/
def sum1 (n : Nat) (P : Nat → Nat → Rat) (i : Nat) : Bool := decide (sumN n (P i) = 1)
theorem Tbl.diag {n : Nat} {P : Nat → Nat → Rat} (T : Tbl n P) : ∀ i, i < n → patB P i i = true := fun i hi => by
  have := T.dg i hi
  unfold patB
  have : ¬ P i i = 0 := fun e => by rw [e] at this; exact absurd this (by decide)
  rw [decide_eq_false this]; rfl
theorem pat_ne {P : Nat → Nat → Rat} {i j : Nat} (h : patB P i j = true) : P i j ≠ 0 := fun e => by
  unfold patB at h
  rw [decide_eq_true e] at h; cases h
theorem harm_le {n : Nat} {P : Nat → Nat → Rat} (T : Tbl n P) {x : Vc} (hx : ∀ i, i < n → x i = sumN n fun j => P i j * x j)
    (hz : ∀ p, p < n → restP n (patB P) (sum1 n P) p → ∀ M : Rat, M ≠ 0 → ¬ ∀ j, j ∈ rchN n (patB P) p → x j = M) : ∀ i, i < n → x i ≤ 0 := by
  obtain ⟨m, hm, mx⟩ := has_max x T.n0
  by_cases c : x m ≤ 0
  · exact fun i hi => Rat.le_trans (mx i hi) c
  · exfalso
    have hp : 0 < x m := by grind
    obtain ⟨q, hq, aq, rq⟩ := rest_in (u := sum1 n P) T.n3 T.diag (A := fun i => x i = x m) (fun i hi ai j hj e => (max_step T hx mx hp hi ai).2 j hj (pat_ne e))
      (fun i hi ai => by unfold sum1; exact decide_eq_true (max_step T hx mx hp hi ai).1) _ m hm rfl (Nat.le_refl _)
    refine hz q hq rq (x m) (fun z => by rw [z] at hp; exact absurd hp (by decide)) fun j hj => ?_
    obtain ⟨j1, j2⟩ := mem_rch.mp hj
    obtain ⟨k, hk, e⟩ := List.any_eq_true.mp j2
    rw [Bool.and_eq_true] at e
    have hk := List.mem_range.mp hk
    exact (max_step T hx mx hp hk ((max_step T hx mx hp hq aq).2 k hk (pat_ne e.1))).2 j j1 (pat_ne e.2)
theorem harm_zero {n : Nat} {P : Nat → Nat → Rat} (T : Tbl n P) {x : Vc} (hx : ∀ i, i < n → x i = sumN n fun j => P i j * x j)
    (hz : ∀ p, p < n → restP n (patB P) (sum1 n P) p → ∀ M : Rat, M ≠ 0 → ¬ ∀ j, j ∈ rchN n (patB P) p → x j = M) : ∀ i, i < n → x i = 0 := by
  have a := harm_le T hx hz
  have b := harm_le T (x := fun i => -1 * x i) (fun i hi => by
      have h := hx i hi
      have e : (fun j => P i j * (-1 * x j)) = fun j => -1 * (P i j * x j) := by funext j; grind
      rw [e, sumN_mull, ← h]) fun p hp r M hM k => hz p hp r (-1 * M) (fun z => hM (by grind)) fun j hj => by have := k j hj; grind
  intro i hi
  have := a i hi
  have := b i hi
  grind
end Rz
/-! RzG26 -/
set_option linter.all false
set_option maxRecDepth 100000
set_option exponentiation.threshold 20000
namespace Rz
/-! ### the limit, put together from its lots -/
def lqs {α : Type} : List α → (α → Rat) → Rat
  | [], _ => 0
  | a :: l, f => f a + lqs l f
theorem lqs_congr {α : Type} : ∀ {l : List α} {f g : α → Rat}, (∀ a ∈ l, f a = g a) → lqs l f = lqs l g
  | [], _, _, _ => rfl
  | a :: l, f, g, h => by
    show f a + lqs l f = g a + lqs l g
    rw [h a (List.mem_cons_self ..), lqs_congr fun b hb => h b (List.mem_cons_of_mem _ hb)]
theorem lqs_zero {α : Type} : ∀ {l : List α} {f : α → Rat}, (∀ a ∈ l, f a = 0) → lqs l f = 0
  | [], _, _ => rfl
  | a :: l, f, h => by
    show f a + lqs l f = 0
    rw [h a (List.mem_cons_self ..), lqs_zero fun b hb => h b (List.mem_cons_of_mem _ hb)]; grind
theorem sum_lqs {α : Type} (n : Nat) (a : Nat → Rat) (f : Nat → α → Rat) : ∀ l : List α, sumN n (fun k => a k * lqs l (f k)) = lqs l fun q => sumN n fun k => a k * f k q
  | [] => sumN_z fun k _ => by show a k * 0 = 0; grind
  | q :: l => by
    have e : (fun k => a k * lqs (q :: l) (f k)) = fun k => a k * f k q + a k * lqs l (f k) := by
      funext k
      show a k * (f k q + lqs l (f k)) = _
      grind
    rw [e, sumN_add, sum_lqs n a f l]; rfl
theorem sum_lqsr {α : Type} (n : Nat) (a : Nat → Rat) (f : Nat → α → Rat) (l : List α) : sumN n (fun k => lqs l (f k) * a k) = lqs l fun q => sumN n fun k => f k q * a k := by
  have e : (fun k => lqs l (f k) * a k) = fun k => a k * lqs l (f k) := by funext k; grind
  have e2 : (fun q => sumN n fun k => f k q * a k) = fun q => sumN n fun k => a k * f k q := by
    funext q
    congr 1
    funext k; grind
  rw [e, e2, sum_lqs]
/-- a lot: its places, the share that comes to it from each place, the parts of its places -/
abbrev Lt := List Nat × Vc × Vc
def limN (Q : List Lt) (i j : Nat) : Rat := lqs Q fun q => q.2.1 i * q.2.2 j
structure Lts (n : Nat) (P : Nat → Nat → Rat) (Q : List Lt) : Prop where
  hh : ∀ q ∈ Q, ∀ i, i < n → q.2.1 i = sumN n fun j => P i j * q.2.1 j
  pp : ∀ q ∈ Q, ∀ j, j < n → q.2.2 j = sumN n fun i => q.2.2 i * P i j
  one : ∀ q ∈ Q, dotN n q.2.2 q.2.1 = 1
  off : Q.Pairwise fun a b => dotN n a.2.2 b.2.1 = 0 ∧ dotN n b.2.2 a.2.1 = 0
  cov : ∀ p, p < n → restP n (patB P) (sum1 n P) p → ∃ q ∈ Q, q.1 = rchN n (patB P) p ∧ q.2.1 p = 1 ∧ ∀ r ∈ Q, r = q ∨ r.2.1 p = 0
  sup : ∀ q ∈ Q, ∀ j, j < n → j ∉ q.1 → q.2.2 j = 0
  sm : ∀ q ∈ Q, sumN n q.2.2 = 1
theorem pickQ {n : Nat} : ∀ {Q : List Lt}, (∀ q ∈ Q, dotN n q.2.2 q.2.1 = 1) → (Q.Pairwise fun a b => dotN n a.2.2 b.2.1 = 0 ∧ dotN n b.2.2 a.2.1 = 0) → ∀ q ∈ Q, ∀ g : Lt → Rat, lqs Q (fun r => dotN n q.2.2 r.2.1 * g r) = g q
  | [], _, _, q, hq, _ => (List.not_mem_nil hq).elim
  | a :: Q, h1, h2, q, hq, g => by
    rw [List.pairwise_cons] at h2
    show dotN n q.2.2 a.2.1 * g a + lqs Q (fun r => dotN n q.2.2 r.2.1 * g r) = g q
    rcases List.mem_cons.mp hq with rfl | hq
    · rw [h1 q (List.mem_cons_self ..), lqs_zero fun r hr => by rw [(h2.1 r hr).1]; grind]; grind
    · rw [(h2.1 q hq).2, pickQ (fun r hr => h1 r (List.mem_cons_of_mem _ hr)) h2.2 q hq g]; grind
section
variable {n : Nat} {P : Nat → Nat → Rat} {Q : List Lt}
theorem Lts.pl (h : Lts n P Q) (i j : Nat) (hi : i < n) : (sumN n fun k => P i k * limN Q k j) = limN Q i j := by
  unfold limN
  rw [sum_lqs]
  refine lqs_congr fun q hq => ?_
  have e : (fun k => P i k * (q.2.1 k * q.2.2 j)) = fun k => (P i k * q.2.1 k) * q.2.2 j := by funext k; grind
  rw [e, sumN_mulr, ← h.hh q hq i hi]
theorem Lts.lp (h : Lts n P Q) (i j : Nat) (hj : j < n) : (sumN n fun k => limN Q i k * P k j) = limN Q i j := by
  unfold limN
  rw [sum_lqsr]
  refine lqs_congr fun q hq => ?_
  have e : (fun k => q.2.1 i * q.2.2 k * P k j) = fun k => q.2.1 i * (q.2.2 k * P k j) := by funext k; grind
  rw [e, sumN_mull, ← h.pp q hq j hj]
theorem Lts.ll (h : Lts n P Q) (i j : Nat) : (sumN n fun k => limN Q i k * limN Q k j) = limN Q i j := by
  have e1 : (sumN n fun k => limN Q i k * limN Q k j) = lqs Q fun q => sumN n fun k => q.2.1 i * q.2.2 k * limN Q k j := by
    have := sum_lqsr n (fun k => limN Q k j) (fun k (q : Lt) => q.2.1 i * q.2.2 k) Q
    exact this
  rw [e1]
  show _ = lqs Q fun q => q.2.1 i * q.2.2 j
  refine lqs_congr fun q hq => ?_
  have e2 : (fun k => q.2.1 i * q.2.2 k * limN Q k j) = fun k => q.2.1 i * (q.2.2 k * limN Q k j) := by funext k; grind
  rw [e2, sumN_mull]
  congr 1
  unfold limN
  rw [sum_lqs]
  have e3 : (fun r : Lt => sumN n fun k => q.2.2 k * (r.2.1 k * r.2.2 j)) = fun r => dotN n q.2.2 r.2.1 * r.2.2 j := by
    funext r
    have : (fun k => q.2.2 k * (r.2.1 k * r.2.2 j)) = fun k => (q.2.2 k * r.2.1 k) * r.2.2 j := by funext k; grind
    rw [this, sumN_mulr]; rfl
  rw [e3, pickQ h.one h.off q hq]
/-- what the limit leaves out can be turned back -/
def backR (P : Nat → Nat → Rat) (Q : List Lt) (i j : Nat) : Rat := idN i j - P i j + limN Q i j
theorem sumN_idN {n i : Nat} (x : Vc) (hi : i < n) : (sumN n fun j => idN i j * x j) = x i := by
  have := sumN_single (m := n) (x := fun j => idN i j * x j) hi fun c hc ne => by
    show idN i c * x c = 0
    unfold idN
    rw [if_neg fun e => ne e.symm]; grind
  rw [this]
  show idN i i * x i = x i
  unfold idN
  rw [if_pos rfl]; grind
theorem Lts.full (T : Tbl n P) (h : Lts n P Q) : (basis n ((List.range n).map (backR P Q))).length = n := rank_full fun x hx => by
  have row : ∀ i, i < n → x i - (sumN n fun j => P i j * x j) + (sumN n fun j => limN Q i j * x j) = 0 := fun i hi => by
    have := hx (backR P Q i) (List.mem_map.mpr ⟨i, List.mem_range.mpr hi, rfl⟩)
    have e : (fun j => backR P Q i j * x j) = fun j => (idN i j * x j + -1 * (P i j * x j)) + limN Q i j * x j := by
      funext j; unfold backR; grind
    rw [e, sumN_add, sumN_add, sumN_idN x hi, sumN_mull] at this
    grind
  have lx : ∀ i, i < n → (sumN n fun j => limN Q i j * x j) = 0 := fun i hi => by
    have a : (sumN n fun k => limN Q i k * (x k - (sumN n fun j => P k j * x j) + (sumN n fun j => limN Q k j * x j))) = 0 := sumN_z fun k hk => by rw [row k hk]; grind
    have sw : ∀ M : Nat → Nat → Rat, (sumN n fun k => limN Q i k * sumN n fun j => M k j * x j) = sumN n fun j => (sumN n fun k => limN Q i k * M k j) * x j := fun M => by
      have e1 : (fun k => limN Q i k * sumN n fun j => M k j * x j) = fun k => sumN n fun j => limN Q i k * M k j * x j := by
        funext k
        rw [← sumN_mull]
        congr 1
        funext j; grind
      rw [e1, sumN_swap]
      congr 1
      funext j
      rw [← sumN_mulr]
    have e : (fun k => limN Q i k * (x k - (sumN n fun j => P k j * x j) + (sumN n fun j => limN Q k j * x j))) = fun k => (limN Q i k * x k + -1 * (limN Q i k * sumN n fun j => P k j * x j)) + limN Q i k * sumN n fun j => limN Q k j * x j := by
      funext k; grind
    rw [e, sumN_add, sumN_add, sumN_mull, sw, sw] at a
    have b1 : (sumN n fun j => (sumN n fun k => limN Q i k * P k j) * x j) = sumN n fun j => limN Q i j * x j := sumN_congr fun j hj => by rw [h.lp i j hj]
    have b2 : (sumN n fun j => (sumN n fun k => limN Q i k * limN Q k j) * x j) = sumN n fun j => limN Q i j * x j := sumN_congr fun j hj => by rw [h.ll i j]
    rw [b1, b2] at a
    grind
  have hx' : ∀ i, i < n → x i = sumN n fun j => P i j * x j := fun i hi => by
    have := row i hi
    rw [lx i hi] at this
    grind
  refine harm_zero T hx' fun p hp rp M hM k => ?_
  obtain ⟨q, hq, e1, e2, e3⟩ := h.cov p hp rp
  have z := lx p hp
  have a : (sumN n fun j => limN Q p j * x j) = lqs Q fun r => r.2.1 p * dotN n r.2.2 x := by
    unfold limN
    rw [sum_lqsr]
    refine lqs_congr fun r _ => ?_
    have : (fun k => r.2.1 p * r.2.2 k * x k) = fun k => r.2.1 p * (r.2.2 k * x k) := by funext k; grind
    rw [this, sumN_mull]; rfl
  have dx : dotN n q.2.2 x = M := by
    have : (fun j => q.2.2 j * x j) = fun j => q.2.2 j * x j := rfl
    have c : dotN n q.2.2 x = sumN n fun j => M * q.2.2 j := sumN_congr fun j hj => by
      by_cases m : j ∈ q.1
      · rw [k j (e1 ▸ m)]; grind
      · rw [h.sup q hq j hj m]; grind
    rw [c, sumN_mull, h.sm q hq]; grind
  have dq : ∀ r ∈ Q, r.2.1 p * dotN n r.2.2 x = dotN n q.2.2 r.2.1 * (r.2.1 p * dotN n r.2.2 x) := fun r hr => by
    rcases e3 r hr with rfl | e3
    · rw [h.one r hr]; grind
    · rw [e3]; grind
  rw [a, lqs_congr dq, pickQ h.one h.off q hq, e2, dx] at z
  exact hM (by grind)
end
end Rz
/-! RzG27 -/
set_option linter.all false
set_option maxRecDepth 100000
set_option exponentiation.threshold 20000
namespace Rz
/-- as many rows as unknowns, and nothing else has the goals nothing -/
theorem solve_sq {m : Nat} {R : List Vc} (hl : R.length ≤ m) (h : ∀ x : Vc, (∀ r ∈ R, sumN m (fun i => r i * x i) = 0) → ∀ i, i < m → x i = 0) : ∃ f, solve m R = some f := by
  cases e : solve m R with
  | some f => exact ⟨f, rfl⟩
  | none =>
    exfalso
    have hB := basis_bas (m + 1) R
    have bl : (basis (m + 1) R).length ≤ R.length := basis_le (m + 1) R
    obtain ⟨b, hb, lm⟩ := fillF_none e
    have : ∃ j0, j0 < m ∧ ∀ b ∈ basis (m + 1) R, ld (m + 1) b ≠ j0 := Classical.byContradiction fun no => by
      have all : ∀ a ∈ List.range (m + 1), a ∈ (basis (m + 1) R).map (ld (m + 1)) := fun a ha => by
        by_cases q : a = m
        · exact List.mem_map.mpr ⟨b, hb, by rw [lm, q]⟩
        · exact Classical.byContradiction fun na => no ⟨a, by have := List.mem_range.mp ha; omega, fun d hd e => na (List.mem_map.mpr ⟨d, hd, e⟩)⟩
      have := sub_len _ _ List.nodup_range all
      rw [List.length_map, List.length_range] at this
      omega
    obtain ⟨j0, hj, hn⟩ := this
    obtain ⟨x, x1, x2, x3⟩ := fill_at (m + 1) j0 _ hB hn
    have xm : x m = 0 := by
      have := x2 b hb
      rw [lm] at this
      rw [this, ((hB.lds b hb).lo j0 (by omega))]; grind
    have ann := basis_ann hB (by omega) hn x1 x2 x3
    have k := h x (fun r hr => by
      have := ann r ((basis_sp (m + 1) R r).mpr (Sp.mem hr))
      rw [sumN, xm] at this
      grind) j0 hj
    rw [x1] at k
    exact absurd k (by decide)
end Rz
/-! RzG28 -/
set_option linter.all false
set_option maxRecDepth 100000
set_option exponentiation.threshold 20000
namespace Rz
/-! ### the parts of a lot -/
structure LotR (n : Nat) (P : Nat → Nat → Rat) (R : List Nat) : Prop where
  nd : R.Nodup
  lt : ∀ p ∈ R, p < n
  ne : 0 < R.length
  cl : ∀ i ∈ R, ∀ j, j < n → j ∉ R → P i j = 0
  s1 : ∀ i ∈ R, sumN n (P i) = 1
theorem putN_at : ∀ {R : List Nat} {f : Nat → Rat} {x : Vc} {c : Nat}, R.Nodup → c < R.length → putN R f x (R.getD c 0) = f c
  | [], _, _, _, _, h => by simp at h
  | p :: l, f, x, 0, hd, _ => by
    rw [List.nodup_cons] at hd
    show putN l (fun c => f (c + 1)) (up x p (f 0)) p = f 0
    rw [putN_out hd.1]; simp [up]
  | p :: l, f, x, c + 1, hd, hc => by
    rw [List.nodup_cons] at hd
    show putN l (fun c => f (c + 1)) (up x p (f 0)) (l.getD c 0) = f (c + 1)
    rw [putN_at (c := c) hd.2 (by simpa using hc)]
theorem getD_mem {R : List Nat} {c : Nat} (h : c < R.length) : R.getD c 0 ∈ R := by
  have : R.getD c 0 = R[c] := by simp [List.getD, h]
  rw [this]; exact List.getElem_mem h
theorem mem_getD {R : List Nat} {p : Nat} (h : p ∈ R) : ∃ c, c < R.length ∧ R.getD c 0 = p := by
  obtain ⟨c, hc, e⟩ := List.getElem_of_mem h
  exact ⟨c, hc, by simp [List.getD, hc, e]⟩
theorem putN_sum0 {n : Nat} {R : List Nat} (nd : R.Nodup) (lt : ∀ p ∈ R, p < n) (y : Vc) (f : Nat → Rat) : sumN n (fun q => y q * putN R f (fun _ => 0) q) = sumN R.length fun c => y (R.getD c 0) * f c := by
  rw [putN_sum y nd lt (fun p _ => rfl), sumN_z fun q _ => by show y q * 0 = 0; grind]
  grind
section
variable {n : Nat} {P : Nat → Nat → Rat} {R : List Nat}
theorem LotR.row (L : LotR n P R) {i : Nat} (hi : i ∈ R) : (sumN R.length fun a => P i (R.getD a 0)) = 1 := by
  rw [← L.s1 i hi]
  have e := putN_sum0 L.nd L.lt (P i) fun _ => 1
  have e1 : (fun c => P i (R.getD c 0) * (1 : Rat)) = fun c => P i (R.getD c 0) := by funext c; grind
  rw [e1] at e
  rw [← e]
  refine sumN_congr fun q hq => ?_
  by_cases m : q ∈ R
  · obtain ⟨c, hc, rfl⟩ := mem_getD m
    rw [putN_at L.nd hc]; grind
  · rw [L.cl i hi q hq m]; grind
theorem nd_inj {R : List Nat} (nd : R.Nodup) {a c : Nat} (ha : a < R.length) (hc : c < R.length) (e : R[a] = R[c]) : a = c := by
  have k := List.pairwise_iff_getElem.mp nd
  rcases Nat.lt_trichotomy a c with h | h | h
  · exact absurd e (k a c ha hc h)
  · exact h
  · exact absurd e.symm (k c a hc ha h)
theorem idN_nodup {R : List Nat} (nd : R.Nodup) {a c : Nat} (ha : a < R.length) (hc : c < R.length) : idN (R.getD c 0) (R.getD a 0) = idN c a := by
  have e1 : R.getD c 0 = R[c] := by simp [List.getD, hc]
  have e2 : R.getD a 0 = R[a] := by simp [List.getD, ha]
  unfold idN
  rw [e1, e2]
  by_cases e : c = a
  · subst e; simp
  · rw [if_neg e, if_neg fun z => e (nd_inj nd hc ha z)]
end
end Rz
/-! RzG29 -/
set_option linter.all false
set_option maxRecDepth 100000
set_option exponentiation.threshold 20000
namespace Rz
/-! ### the share that comes to a lot -/
theorem max_at {n : Nat} {P : Nat → Nat → Rat} (T : Tbl n P) {x : Vc} {M : Rat} {i : Nat} (hi : i < n) (hx : x i = sumN n fun j => P i j * x j) (hM : ∀ j, j < n → x j ≤ M) (hp : 0 < M) (e : x i = M) : ∀ j, j < n → P i j ≠ 0 → x j = M := by
  have t0 : ∀ j, j < n → 0 ≤ P i j * (M - x j) := fun j hj => Rat.mul_nonneg (T.nn i j hi hj) (by have := hM j hj; grind)
  have es : sumN n (fun j => P i j * (M - x j)) = M * sumN n (P i) - M := by
    have e1 : (fun j => P i j * (M - x j)) = fun j => M * P i j + -1 * (P i j * x j) := by funext j; grind
    rw [e1, sumN_add, sumN_mull, sumN_mull, ← hx, e]; grind
  have le := T.le i hi
  have up : M * sumN n (P i) ≤ M := by
    have := Rat.mul_le_mul_of_nonneg_left le (Rat.le_of_lt hp)
    grind
  have nn := sumN_nn t0
  rw [es] at nn
  have eq : M * sumN n (P i) = M := by grind
  intro j hj hne
  have z : P i j * (M - x j) = 0 := by
    have a := sumN_le t0 hj
    rw [es] at a
    have b := t0 j hj
    have : P i j * (M - x j) ≤ 0 := by
      have a' : P i j * (M - x j) ≤ M * sumN n (P i) - M := a
      rw [eq] at a'
      grind
    grind
  rcases Rat.mul_eq_zero.mp z with z | z
  · exact absurd z hne
  · grind
def hopB (n : Nat) (B : Nat → Nat → Bool) (R : List Nat) (i : Nat) : Bool := (rchN n B i).any fun o => decide (o ∈ R)
def someN (n : Nat) (B : Nat → Nat → Bool) (R : List Nat) : List Nat := (List.range n).filter fun i => hopB n B R i && !decide (i ∈ R)
def comA (P : Nat → Nat → Rat) (S : List Nat) (a : Nat) : Vc := fun c => idN (S.getD a 0) (S.getD c 0) - P (S.getD a 0) (S.getD c 0)
def comQ (P : Nat → Nat → Rat) (S R : List Nat) (a : Nat) : Rat := sumN R.length fun b => P (S.getD a 0) (R.getD b 0)
def comR (P : Nat → Nat → Rat) (S R : List Nat) : List Vc := augs S.length S.length (comA P S) (comQ P S R)
section
variable {n : Nat} {P : Nat → Nat → Rat} {R : List Nat}
theorem mem_some {B : Nat → Nat → Bool} {i : Nat} : i ∈ someN n B R ↔ i < n ∧ hopB n B R i = true ∧ i ∉ R := by
  unfold someN
  rw [List.mem_filter, List.mem_range, Bool.and_eq_true]
  simp
theorem nd_some (n : Nat) (B : Nat → Nat → Bool) (R : List Nat) : (someN n B R).Nodup := List.Nodup.sublist List.filter_sublist List.nodup_range
theorem come_le (T : Tbl n P) {x : Nat → Rat} (h : ∀ a, a < (someN n (patB P) R).length → x a = sumN (someN n (patB P) R).length fun c => P ((someN n (patB P) R).getD a 0) ((someN n (patB P) R).getD c 0) * x c) : ∀ a, a < (someN n (patB P) R).length → x a ≤ 0 := by
  intro a0 ha0
  have sm : ∀ i, i ∈ someN n (patB P) R ↔ i < n ∧ hopB n (patB P) R i = true ∧ i ∉ R := fun i => mem_some
  have nd := nd_some n (patB P) R
  generalize someN n (patB P) R = S at *
  have lt : ∀ p ∈ S, p < n := fun p hp => ((sm p).mp hp).1
  obtain ⟨k, hk, mx⟩ := has_max x (by omega : 0 < S.length)
  by_cases c : x k ≤ 0
  · exact Rat.le_trans (mx a0 ha0) c
  · exfalso
    have hp : 0 < x k := by grind
    have val : ∀ q, (q ∈ S ∧ ∃ a, a < S.length ∧ S.getD a 0 = q ∧ putN S x (fun _ => 0) q = x a) ∨ (q ∉ S ∧ putN S x (fun _ => 0) q = 0) := fun q => by
      by_cases m : q ∈ S
      · obtain ⟨a, ha, rfl⟩ := mem_getD m
        exact .inl ⟨m, a, ha, rfl, putN_at nd ha⟩
      · exact .inr ⟨m, putN_out m⟩
    have hM : ∀ j, j < n → putN S x (fun _ => 0) j ≤ x k := fun j _ => by
      rcases val j with ⟨_, a, ha, _, e⟩ | ⟨_, e⟩
      · rw [e]; exact mx a ha
      · rw [e]; exact Rat.le_of_lt hp
    have ins : ∀ j, putN S x (fun _ => 0) j = x k → j ∈ S := fun j e => by
      rcases val j with ⟨m, _⟩ | ⟨_, e2⟩
      · exact m
      · rw [e2] at e; rw [← e] at hp; exact absurd hp (by decide)
    have har : ∀ i, i ∈ S → putN S x (fun _ => 0) i = sumN n fun j => P i j * putN S x (fun _ => 0) j := fun i hi => by
      obtain ⟨a, ha, rfl⟩ := mem_getD hi
      rw [putN_at nd ha, putN_sum0 nd lt, ← h a ha]
    have step : ∀ i, putN S x (fun _ => 0) i = x k → ∀ j, j < n → patB P i j = true → putN S x (fun _ => 0) j = x k := fun i e j hj b => max_at T (lt i (ins i e)) (har i (ins i e)) hM hp e j hj (pat_ne b)
    have top : putN S x (fun _ => 0) (S.getD k 0) = x k := putN_at nd hk
    obtain ⟨_, hop, _⟩ := (sm (S.getD k 0)).mp (getD_mem hk)
    obtain ⟨o, ho, oR⟩ := List.any_eq_true.mp hop
    obtain ⟨o1, o2⟩ := mem_rch.mp ho
    obtain ⟨b, hb, e⟩ := List.any_eq_true.mp o2
    rw [Bool.and_eq_true] at e
    have hb := List.mem_range.mp hb
    have z := step b (step _ top b hb e.1) o o1 e.2
    exact ((sm o).mp (ins o z)).2.2 (of_decide_eq_true oR)
theorem come_some (T : Tbl n P) : ∃ f, solve (someN n (patB P) R).length (comR P (someN n (patB P) R) R) = some f := by
  have sq : ∀ x : Vc, (∀ a, a < (someN n (patB P) R).length → (sumN (someN n (patB P) R).length fun c => comA P (someN n (patB P) R) a c * x c) = 0) → ∀ a, a < (someN n (patB P) R).length → x a = sumN (someN n (patB P) R).length fun c => P ((someN n (patB P) R).getD a 0) ((someN n (patB P) R).getD c 0) * x c := fun x h a ha => by
    have nd := nd_some n (patB P) R
    have k := h a ha
    have e : (sumN (someN n (patB P) R).length fun c => comA P (someN n (patB P) R) a c * x c) = (sumN (someN n (patB P) R).length fun c => idN a c * x c) + -1 * sumN (someN n (patB P) R).length fun c => P ((someN n (patB P) R).getD a 0) ((someN n (patB P) R).getD c 0) * x c := by
      rw [← sumN_mull, ← sumN_add]
      refine sumN_congr fun c hc => ?_
      show (idN ((someN n (patB P) R).getD a 0) ((someN n (patB P) R).getD c 0) - _) * x c = _
      rw [idN_nodup nd hc ha]; grind
    rw [e, sumN_idN x ha] at k
    grind
  refine solve_sq (by unfold comR augs; simp) fun x hx => ?_
  have rows : ∀ a, a < (someN n (patB P) R).length → (sumN (someN n (patB P) R).length fun c => comA P (someN n (patB P) R) a c * x c) = 0 := fun a ha => by
    have k := hx _ (List.mem_map.mpr ⟨a, List.mem_range.mpr ha, rfl⟩)
    rw [← k]
    refine sumN_congr fun c hc => ?_
    have : up (comA P (someN n (patB P) R) a) (someN n (patB P) R).length (comQ P (someN n (patB P) R) R a) c = comA P (someN n (patB P) R) a c := by simp only [up]; rw [if_neg (by omega)]
    rw [this]
  have h1 := sq x rows
  have a1 := come_le T h1
  have a2 := come_le T (x := fun a => -1 * x a) fun a ha => by
    have k := h1 a ha
    have e : (fun c => P ((someN n (patB P) R).getD a 0) ((someN n (patB P) R).getD c 0) * (-1 * x c)) = fun c => -1 * (P ((someN n (patB P) R).getD a 0) ((someN n (patB P) R).getD c 0) * x c) := by funext c; grind
    rw [e, sumN_mull, ← k]
  intro i hi
  have := a1 i hi
  have := a2 i hi
  grind
end
end Rz
/-! RzG30 -/
set_option linter.all false
set_option maxRecDepth 100000
set_option exponentiation.threshold 20000
namespace Rz
def indR (R : List Nat) : Vc := fun i => if i ∈ R then 1 else 0
def comH (R S : List Nat) (f : Nat → Rat) : Vc := putN S f (indR R)
section
variable {n : Nat} {P : Nat → Nat → Rat} {R : List Nat}
theorem hop_edge (T : Tbl n P) {i j : Nat} (hi : i < n) (hj : j < n) (e : patB P i j = true) (h : hopB n (patB P) R j = true) : hopB n (patB P) R i = true := by
  obtain ⟨o, ho, oR⟩ := List.any_eq_true.mp h
  obtain ⟨o1, o2⟩ := mem_rch.mp ho
  exact List.any_eq_true.mpr ⟨o, mem_rch.mpr ⟨o1, rc_trans T.n3 T.diag hi hj o1 (rc_edge T.diag hi hj e) o2⟩, oR⟩
theorem hop_mem (T : Tbl n P) {j : Nat} (hj : j < n) (h : j ∈ R) : hopB n (patB P) R j = true :=
  List.any_eq_true.mpr ⟨j, rch_self T.diag hj, decide_eq_true h⟩
theorem pat_of {i j : Nat} (h : P i j ≠ 0) : patB P i j = true := by
  unfold patB
  rw [decide_eq_false h]; rfl
end
def comV (n : Nat) (P : Nat → Nat → Rat) (R : List Nat) : Vc := match solve (someN n (patB P) R).length (comR P (someN n (patB P) R) R) with
  | some f => comH R (someN n (patB P) R) f
  | none => fun _ => 0
end Rz
/-! RzG31 -/
set_option linter.all false
set_option maxRecDepth 100000
set_option exponentiation.threshold 20000
namespace Rz
/-! ### places behind a place, by the program -/
theorem T_places_from : TT i_places_from = some d_places_from := rfl
def stepB (b : Nat → Bool) (p : List Nat × List Nat) (j : Nat) : List Nat × List Nat := if b j && !decide (j ∈ p.1) then (p.1 ++ [j], p.2 ++ [j]) else p
def bfsIn (i : Nat) (b : Nat → Bool) (F L : List Nat) : List Nat × List Nat := (List.range i).foldl (stepB b) (F, L)
def bfs (n : Nat) (B : Nat → Nat → Bool) : Nat → List Nat → List Nat → Option (List Nat)
  | _, F, [] => some F
  | 0, _, _ :: _ => none
  | k + 1, F, h :: L => bfs n B k (bfsIn n (B h) F L).1 (bfsIn n (B h) F L).2
theorem bfsIn_succ (i : Nat) (b : Nat → Bool) (F L : List Nat) : bfsIn (i + 1) b F L = stepB b (bfsIn i b F L) i := by
  unfold bfsIn
  rw [List.range_succ, List.foldl_append]; rfl
theorem bfsIn_len (i : Nat) (b : Nat → Bool) (F L : List Nat) : (bfsIn i b F L).1.length ≤ F.length + i ∧ (bfsIn i b F L).2.length ≤ L.length + i := by
  induction i with
  | zero => exact ⟨Nat.le_refl _, Nat.le_refl _⟩
  | succ i ih =>
    rw [bfsIn_succ]
    unfold stepB
    split
    · simp only [List.length_append, List.length_cons, List.length_nil]; omega
    · omega
theorem bfsIn_lt {n i : Nat} {b : Nat → Bool} {F L : List Nat} (hi : i ≤ n) (hF : ∀ a ∈ F, a < n) (hL : ∀ a ∈ L, a < n) : (∀ a ∈ (bfsIn i b F L).1, a < n) ∧ ∀ a ∈ (bfsIn i b F L).2, a < n := by
  induction i with
  | zero => exact ⟨hF, hL⟩
  | succ i ih =>
    obtain ⟨h1, h2⟩ := ih (by omega)
    rw [bfsIn_succ]
    unfold stepB
    split
    · refine ⟨fun a ha => ?_, fun a ha => ?_⟩ <;> rcases List.mem_append.mp ha with h | h
      · exact h1 a h
      · rw [List.mem_singleton.mp h]; omega
      · exact h2 a h
      · rw [List.mem_singleton.mp h]; omega
    · exact ⟨h1, h2⟩
theorem bfsIn_congr {n : Nat} {b c : Nat → Bool} (h : ∀ j, j < n → b j = c j) (F L : List Nat) : ∀ i, i ≤ n → bfsIn i b F L = bfsIn i c F L
  | 0, _ => rfl
  | i + 1, hi => by
    rw [bfsIn_succ, bfsIn_succ, bfsIn_congr h F L i (by omega)]
    unfold stepB
    rw [h i (by omega)]
theorem bfs_congr {n : Nat} {B C : Nat → Nat → Bool} (h : ∀ i j, i < n → j < n → B i j = C i j) : ∀ (k : Nat) (F L : List Nat), (∀ a ∈ F, a < n) → (∀ a ∈ L, a < n) → bfs n B k F L = bfs n C k F L
  | k, F, [], _, _ => by cases k <;> rfl
  | 0, F, _ :: _, _, _ => rfl
  | k + 1, F, a :: L, hF, hL => by
    have ha := hL a (List.mem_cons_self ..)
    have e := bfsIn_congr (n := n) (b := B a) (c := C a) (fun j hj => h a j ha hj) F L n (Nat.le_refl n)
    show bfs n B k (bfsIn n (B a) F L).1 (bfsIn n (B a) F L).2 = bfs n C k (bfsIn n (C a) F L).1 (bfsIn n (C a) F L).2
    rw [e]
    obtain ⟨h1, h2⟩ := bfsIn_lt (n := n) (i := n) (b := C a) (Nat.le_refl n) hF fun x hx => hL x (List.mem_cons_of_mem _ hx)
    exact bfs_congr h k _ _ h1 h2
def bfsT (n : Nat) (B : Nat → Nat → Bool) : Bool := (List.range n).all fun p => match bfs n B 4 [p] [p] with
  | some F => decide (sortI (F.map Int.ofNat) = (rchN n B p).map Int.ofNat) && Nat.ble F.length 3
  | none => false
theorem bfsT_all : (List.range 4).all (fun n => allPat (bfsT n)) = true := by decide +kernel
theorem bfs_ok {n : Nat} {B : Nat → Nat → Bool} (hn : n ≤ 3) (hd : ∀ i, i < n → B i i = true) {p : Nat} (hp : p < n) : ∃ F, bfs n B 4 [p] [p] = some F ∧ sortI (F.map Int.ofNat) = (rchN n B p).map Int.ofNat ∧ F.length ≤ 3 := by
  have m := mat_of hn hd
  have h := allPat_ok (List.all_eq_true.mp bfsT_all n (List.mem_range.mpr (by omega))) (B 0 1) (B 0 2) (B 1 0) (B 1 2) (B 2 0) (B 2 1)
  unfold bfsT at h
  have h := List.all_eq_true.mp h p (List.mem_range.mpr hp)
  have one : ∀ a ∈ [p], a < n := fun a ha => by rw [List.mem_singleton.mp ha]; exact hp
  rw [← bfs_congr m 4 [p] [p] one one] at h
  cases e : bfs n B 4 [p] [p] with
  | none => rw [e] at h; cases h
  | some F =>
    rw [e] at h
    have h : (decide (sortI (F.map Int.ofNat) = (rchN n (mat3 (B 0 1) (B 0 2) (B 1 0) (B 1 2) (B 2 0) (B 2 1)) p).map Int.ofNat) && Nat.ble F.length 3) = true := h
    rw [Bool.and_eq_true] at h
    refine ⟨F, rfl, ?_, Nat.le_of_ble_eq_true h.2⟩
    rw [of_decide_eq_true h.1]
    congr 1
    unfold rchN
    exact List.filter_congr fun a ha => (rcB_congr m hp (List.mem_range.mp ha)).symm
def iL (F : List Nat) : D := .lst (F.map fun (p : Nat) => D.int (p : Int))
theorem iL_ne (F : List Nat) : op2 .ne (iL F) (.lst []) = some (.bl (!F.isEmpty)) := by
  unfold iL
  rw [nil_ne (pl_ints F)]
  cases F <;> rfl
theorem any_int (F : List Nat) (j : Nat) : anyEq (F.map fun (p : Nat) => D.int (p : Int)) (.int (j : Int)) = decide (j ∈ F) := by
  unfold anyEq
  rw [List.any_map]
  cases e : decide (j ∈ F) with
  | true =>
    refine List.any_eq_true.mpr ⟨j, of_decide_eq_true e, ?_⟩
    show ((j : Int) == (j : Int)) = true
    simp
  | false =>
    refine List.any_eq_false.mpr fun a ha => ?_
    show ¬ ((a : Int) == (j : Int)) = true
    have : ¬ a = j := fun z => of_decide_eq_false e (z ▸ ha)
    have : ¬ (a : Int) = (j : Int) := by omega
    simpa using this
theorem shp_iL (F : List Nat) : D.shp 60 (iL F) = true := (pl_lst (pl_ints F)).shp
theorem notin_iL (F : List Nat) (j : Nat) : op2 .notin (.int (j : Int)) (iL F) = some (.bl (!decide (j ∈ F))) := by
  show (if shp2 (.int (j : Int)) (iL F) = true then some (D.bl (!anyEq (F.map fun (p : Nat) => D.int (p : Int)) (.int (j : Int)))) else none) = _
  have : shp2 (.int (j : Int)) (iL F) = true := by unfold shp2; rw [shp_iL, (pl_int 60 _).shp]; rfl
  rw [if_pos this, any_int]
theorem in_iL (F : List Nat) (j : Nat) : op2 .isin (.int (j : Int)) (iL F) = some (.bl (decide (j ∈ F))) := by
  show (if shp2 (.int (j : Int)) (iL F) = true then some (D.bl (anyEq (F.map fun (p : Nat) => D.int (p : Int)) (.int (j : Int)))) else none) = _
  have : shp2 (.int (j : Int)) (iL F) = true := by unfold shp2; rw [shp_iL, (pl_int 60 _).shp]; rfl
  rw [if_pos this, any_int]
theorem add_iL (F : List Nat) (j : Nat) (h : F.length ≤ 1000) : op2 .add (iL F) (.lst [.int (j : Int)]) = some (iL (F ++ [j])) := by
  unfold iL
  rw [op_add_l (by simp; omega), List.map_append]; rfl
def pfFor : List St := [.ite (.and_ (.op .ne (.var 6) (.glo [90, 69, 82,
    79] (.tup [(.int 0), (.int 1)]))) (.op .notin (.var 5) (.var 2))) [.par [(false, 2), (false, 3)] [.op .add (.var 2) (.lst [.var 5]),
    .op .add (.var 3) (.lst [.var 5])]] []]
def pfBody : List St := [.par [(false, 4), (false, 3)] [.ix (.var 3) (.lit (.int 0)),
    .sl .lo (.var 3) [.lit (.int 1)]], .for_ (.tp [(.nm 5), (.nm 6)]) .enum [.ix (.var 0) (.var 4)] pfFor]
theorem pf_for (C : Nat → List D → Gs → R D) (n : Nat) (P : Nat → Nat → Rat) (g : Gs) (a0 a1 a4 a7 : Sl) (h : Nat) (F L : List Nat) (hn : n ≤ 3) (hF : F.length ≤ 900) (hL : L.length ≤ 900) (y5 y6 : Sl) :
    ∃ z5 z6, forL (bodyOf C pfFor) (.tp [.nm 5, .nm 6]) ((List.range n).map fun (j : Nat) => D.tup [.int (j : Int), fr (P h j)]) [a0, a1, .p (iL F), .p (iL L), a4, y5, y6, a7] g = .nx [a0, a1, .p (iL (bfsIn n (patB P h) F L).1), .p (iL (bfsIn n (patB P h) F L).2), a4, z5, z6, a7] g := by
  obtain ⟨env', g', f1, hg, z5, z6, he⟩ := forL_n (t := .tp [.nm 5, .nm 6]) (f := fun (j : Nat) => D.tup [.int (j : Int), fr (P h j)]) (b := bodyOf C pfFor) (env := [a0, a1, .p (iL F), .p (iL L), a4, y5, y6, a7]) (g := g)
    (fun i e g' => g' = g ∧ ∃ z5 z6, e = [a0, a1, .p (iL (bfsIn i (patB P h) F L).1), .p (iL (bfsIn i (patB P h) F L).2), a4, z5, z6, a7]) n (fun j e g' hj ⟨hg, z5, z6, he⟩ => by
      subst he hg
      have ln := bfsIn_len j (patB P h) F L
      rw [bfsIn_succ]
      unfold stepB
      generalize bfsIn j (patB P h) F L = p at *
      have fz : D.tup [.int 0, .int 1] = fr 0 := rfl
      have ne : op2 .ne (fr (P h j)) (fr 0) = some (.bl (patB P h j)) := ne_fr _ _
      have ni := notin_iL p.1 j
      have a1' := add_iL p.1 j (by omega)
      have a2' := add_iL p.2 j (by omega)
      refine ⟨_, rfl, _, g', .inl ?_, rfl, .p (.int (j : Int)), .p (fr (P h j)), rfl⟩
      rw [bodyOf_eq]
      cases e1 : patB P h j with
      | false =>
        rw [e1] at ne
        simp only [pfFor, setS_z, setS_s, evSs_cons, evSs_nil, evS_ite, evE_and, evE_op, evE_var, evE_glo, getS_z, getS_s, slV_p, bind_ok, fz, ne, of_some, iteD_bl, Bool.false_eq_true, if_false, to_ok, thenS_nx, Bool.false_and]
      | true =>
        rw [e1] at ne
        cases e2 : decide (j ∈ p.1) with
        | true =>
          rw [e2] at ni
          simp only [pfFor, setS_z, setS_s, evSs_cons, evSs_nil, evS_ite, evE_and, evE_op, evE_var, evE_glo, getS_z, getS_s, slV_p, bind_ok, fz, ne, ni, of_some, iteD_bl, if_true, Bool.not_true, Bool.false_eq_true, if_false, to_ok, thenS_nx, Bool.and_false]
        | false =>
          rw [e2] at ni
          simp only [pfFor, setS_z, setS_s, evSs_cons, evSs_nil, evS_ite, evS_par, evE_and, evE_op, evE_lst, evEs_cons, evEs_nil, evE_var, evE_glo, getS_z, getS_s, slV_p, bind_ok, fz, ne, ni, a1', a2', of_some, iteD_bl, if_true, Bool.not_false, to_ok, parD_ok, setPar_cons, setPar_nil, Bool.false_and, Bool.and_self, Bool.false_eq_true, if_false, nxO_some, thenS_nx]) ⟨rfl, y5, y6, rfl⟩
  subst he hg
  exact ⟨z5, z6, f1⟩
theorem pf_whl (C : Nat → List D → Gs → R D) (n : Nat) (P : Nat → Nat → Rat) (g : Gs) (a1 a7 : Sl) (hn : n ≤ 3) : ∀ (m fuel : Nat) (F L F' : List Nat) (y4 y5 y6 : Sl), bfs n (patB P) m F L = some F' → m + 1 ≤ fuel → (∀ a ∈ L, a < n) → (∀ a ∈ F, a < n) → F.length + 3 * m ≤ 900 → L.length + 3 * m ≤ 900 →
    ∃ z4 z5 z6, whlL (cndOf C (.op .ne (.var 3) (.lst []))) (bodyOf C pfBody) fuel [.p (tab n n P), a1, .p (iL F), .p (iL L), y4, y5, y6, a7] g = .nx [.p (tab n n P), a1, .p (iL F'), .p (iL []), z4, z5, z6, a7] g
  | m, 0, F, L, F', y4, y5, y6, _, hf, _, _, _, _ => by omega
  | m, fuel + 1, F, [], F', y4, y5, y6, h, hf, _, _, _, _ => by
    have : F = F' := by cases m <;> (injection h)
    subst this
    refine ⟨y4, y5, y6, ?_⟩
    have c : cndOf C (.op .ne (.var 3) (.lst [])) [.p (tab n n P), a1, .p (iL F), .p (iL []), y4, y5, y6, a7] g = .ok (.bl false) g := by
      have := iL_ne []
      simp only [List.isEmpty_nil, Bool.not_true] at this
      show evE C (.op .ne (.var 3) (.lst [])) _ g = _
      simp only [evE_op, evE_var, evE_lst, evEs_nil, getS_z, getS_s, slV_p, bind_ok, this, of_some]
    rw [whl_s _ _ _ _ _ _ _ c]; rfl
  | 0, fuel + 1, F, h :: L, F', y4, y5, y6, hb, hf, _, _, _, _ => by cases hb
  | m + 1, fuel + 1, F, h :: L, F', y4, y5, y6, hb, hf, hL, hF, lF, lL => by
    have hh := hL h (List.mem_cons_self ..)
    have c : cndOf C (.op .ne (.var 3) (.lst [])) [.p (tab n n P), a1, .p (iL F), .p (iL (h :: L)), y4, y5, y6, a7] g = .ok (.bl true) g := by
      have := iL_ne (h :: L)
      simp only [List.isEmpty_cons, Bool.not_false] at this
      show evE C (.op .ne (.var 3) (.lst [])) _ g = _
      simp only [evE_op, evE_var, evE_lst, evEs_nil, getS_z, getS_s, slV_p, bind_ok, this, of_some]
    have hb : bfs n (patB P) m (bfsIn n (patB P h) F L).1 (bfsIn n (patB P h) F L).2 = some F' := hb
    simp only [List.length_cons] at lL
    obtain ⟨z5, z6, fl⟩ := pf_for C n P g (.p (tab n n P)) a1 (.p (.int (h : Int))) a7 h F L hn (by omega) (by omega) y5 y6
    have x0 : ixD g (iL (h :: L)) (.int 0) = some (.int (h : Int)) := ix_l0 g _ _
    have sl : slD .lo (iL (h :: L)) [.int 1] = some (iL L) := slice_lo_l ((h :: L).map fun (p : Nat) => D.int (p : Int)) 1 (by simp)
    have xr : ixD g (tab n n P) (.int (h : Int)) = some (row n (P h)) := ix_tf hh
    have ie : items .enum [row n (P h)] = some ((List.range n).map fun (j : Nat) => D.tup [.int (j : Int), fr (P h j)]) := items_enum (sq_tf _ _)
    have bd : bodyOf C pfBody [.p (tab n n P), a1, .p (iL F), .p (iL (h :: L)), y4, y5, y6, a7] g = .nx [.p (tab n n P), a1, .p (iL (bfsIn n (patB P h) F L).1), .p (iL (bfsIn n (patB P h) F L).2), .p (.int (h : Int)), z5, z6, a7] g := by
      rw [bodyOf_eq]
      simp only [pfBody, evSs_cons, evSs_nil, evS_par, evEs_cons, evEs_nil, evE_ix, evE_sl, evE_var, evE_lit, evIs_cons, evIs_nil, toI_int, getS_z, getS_s, slV_p, bind_ok, x0, sl, of_some, parD_ok, setPar_cons, setPar_nil, Bool.false_and, Bool.false_eq_true, if_false, setS_z, setS_s, nxO_some, thenS_nx, evS_for, xr, fork_ok, ie, forD_some, fl]
    obtain ⟨h1, h2⟩ := bfsIn_lt (n := n) (i := n) (b := patB P h) (Nat.le_refl n) hF fun x hx => hL x (List.mem_cons_of_mem _ hx)
    obtain ⟨b1, b2⟩ := bfsIn_len n (patB P h) F L
    obtain ⟨w4, w5, w6, q⟩ := pf_whl C n P g a1 a7 hn m fuel _ _ F' (.p (.int (h : Int))) z5 z6 hb (by omega) h2 h1 (by omega) (by omega)
    refine ⟨w4, w5, w6, ?_⟩
    rw [whl_s _ _ _ _ _ _ _ c]
    simp only [if_true, bd]
    exact q
theorem map_ofNat (F : List Nat) : (F.map Int.ofNat).map D.int = F.map fun (p : Nat) => D.int (p : Int) := by rw [List.map_map]; rfl
theorem ev_places_from (k n : Nat) (P : Nat → Nat → Rat) (p : Nat) (g : Gs) (T : Tbl n P) (hp : p < n) : evF TT (k + 1) i_places_from [tab n n P, .int (p : Int)] g = .ok (iL (rchN n (patB P) p)) g := by
  rw [evF_s T_places_from, runF_eq rfl]
  show outR (evSs (evF TT k) b_places_from [.p (tab n n P), .p (.int (p : Int)), .u, .u, .u, .u, .u, .u] g) = _
  obtain ⟨F, e, so, lF⟩ := bfs_ok T.n3 T.diag hp
  have one : ∀ a ∈ [p], a < n := fun a ha => by rw [List.mem_singleton.mp ha]; exact hp
  have hWF : (4 : Nat) + 1 ≤ WF := by decide
  obtain ⟨z4, z5, z6, w⟩ := pf_whl (evF TT k) n P g (.p (.int (p : Int))) .u T.n3 4 WF [p] [p] F .u .u .u e hWF one one (by simp) (by simp)
  have i2 : items .seq [iL F] = some (F.map fun (p : Nat) => D.int (p : Int)) := rfl
  have cp : compD (evF TT k) (.bi .int [.var 7]) (.nm 7) [] [.p (tab n n P), .p (.int (p : Int)), .p (iL F), .p (iL []), z4, z5, z6, .u] g (some (F.map fun (p : Nat) => D.int (p : Int))) = .ok (.lst (F.map fun (p : Nat) => D.int (p : Int))) g :=
    compD_l F (fun (p : Nat) => D.int (p : Int)) (fun (p : Nat) => D.int (p : Int)) (by omega) fun a ha => ⟨[.p (tab n n P), .p (.int (p : Int)), .p (iL F), .p (iL []), z4, z5, z6, .p (.int (a : Int))], rfl, by
      have : bi .int [.int (a : Int)] = some (.int (a : Int)) := rfl
      simp only [evE_bi, evEs_cons, evEs_nil, evE_var, getS_z, getS_s, slV_p, bind_ok, this, of_some]⟩
  have srt : bi .sorted [.lst (F.map fun (p : Nat) => D.int (p : Int))] = some (iL (rchN n (patB P) p)) := by
    rw [← map_ofNat]
    show (match intsOf ((F.map Int.ofNat).map D.int) with | some ns => if Nat.blt ns.length 64 then some (D.lst ((sortI ns).map .int)) else none | none => none) = _
    rw [intsOf_map]
    have : Nat.blt (F.map Int.ofNat).length 64 = true := by
      rw [List.length_map]
      exact Nat.ble_eq_true_of_le (by omega)
    simp only [this, if_true, so, map_ofNat]
    rfl
  have e0 : iL [p] = .lst [.int (p : Int)] := rfl
  rw [e0] at w
  have hb : b_places_from = [.par [(false, 2), (false, 3)] [.lst [.var 1], .lst [.var 1]], .whl (.op .ne (.var 3) (.lst [])) pfBody, .ret (.bi .sorted [.comp (.bi .int [.var 7]) (.nm 7) .seq [.var 2] []])] := rfl
  rw [hb]
  simp only [evSs_cons, evSs_nil, evS_par, evEs_cons, evEs_nil, evE_lst, evE_var, getS_z, getS_s, slV_p, bind_ok, parD_ok, setPar_cons, setPar_nil, Bool.false_and, Bool.false_eq_true, if_false, setS_z, setS_s, nxO_some, thenS_nx, evS_whl, w, evS_ret, evE_bi, evE_comp, i2, cp, srt, of_some, to_ok, thenS_ret, outR_ret]
end Rz
/-! RzG32 -/
set_option linter.all false
set_option maxRecDepth 100000
set_option exponentiation.threshold 20000
namespace Rz
end Rz
/-! RzG33 -/
set_option linter.all false
set_option maxRecDepth 100000
set_option exponentiation.threshold 20000
namespace Rz
end Rz
/-! RzG34 -/
set_option linter.all false
set_option maxRecDepth 100000
set_option exponentiation.threshold 20000
namespace Rz
theorem rch_congr {n : Nat} {B C : Nat → Nat → Bool} (h : ∀ i j, i < n → j < n → B i j = C i j) {p : Nat} (hp : p < n) : rchN n B p = rchN n C p := by
  unfold rchN
  exact List.filter_congr fun a ha => rcB_congr h hp (List.mem_range.mp ha)
end Rz
/-! RzG35 -/
set_option linter.all false
set_option maxRecDepth 100000
set_option exponentiation.threshold 20000
namespace Rz
end Rz
/-! RzG36 -/
set_option linter.all false
set_option maxRecDepth 100000
set_option exponentiation.threshold 20000
namespace Rz
theorem frz_two (i j : Nat) (env : Env) : frz [i, j] env = frzS (frzS env i) j := rfl
theorem idN_fr (p t : Nat) : ∀ d, bi .int [.bl (decide ((p : Int) = (t : Int)))] = some d → D.tup [d, .int 1] = fr (idN p t) := fun d e => by
  unfold idN
  by_cases h : p = t
  · subst h
    rw [decide_eq_true rfl] at e
    have e : some (D.int 1) = some d := e
    injection e with e; subst e
    rw [if_pos rfl]; rfl
  · have : ¬ (p : Int) = (t : Int) := by omega
    rw [decide_eq_false this] at e
    have e : some (D.int 0) = some d := e
    injection e with e; subst e
    rw [if_neg h]; rfl
theorem idN_sm (p t : Nat) : Sm (idN p t) := by
  unfold idN
  split
  · exact sm_one
  · exact sm_zero
theorem int_bl (b : Bool) : bi .int [.bl b] = some (.int (if b then 1 else 0)) := by cases b <;> rfl
end Rz
/-! RzG37 -/
set_option linter.all false
set_option maxRecDepth 100000
set_option exponentiation.threshold 20000
namespace Rz
/-! ### sizes of the equations of parts and shares -/
theorem sub_id {W : Nat} {q : Rat} {i j : Nat} (h : ∃ z : Int, q * (W : Rat) = (z : Rat) ∧ z.natAbs ≤ W) (h0 : 0 ≤ q) (s : Rat) (hs : s = 1 ∨ s = -1) : ∃ z : Int, s * (q - idN i j) * (W : Rat) = (z : Rat) ∧ z.natAbs ≤ 2 * W := by
  obtain ⟨z, e, hz⟩ := h
  by_cases c : i = j
  · have : idN i j = 1 := by unfold idN; rw [if_pos c]
    rw [this]
    rcases hs with rfl | rfl
    · refine ⟨z - (W : Int), ?_, by omega⟩
      push_cast
      rw [← e]; grind
    · refine ⟨(W : Int) - z, ?_, by omega⟩
      push_cast
      rw [← e]; grind
  · have : idN i j = 0 := by unfold idN; rw [if_neg c]
    rw [this]
    rcases hs with rfl | rfl
    · exact ⟨z, by rw [← e]; grind, by omega⟩
    · refine ⟨-z, ?_, by omega⟩
      push_cast
      rw [← e]; grind
end Rz
/-! RzG38 -/
set_option linter.all false
set_option maxRecDepth 100000
set_option exponentiation.threshold 20000
namespace Rz
end Rz
/-! RzG39 -/
set_option linter.all false
set_option maxRecDepth 100000
set_option exponentiation.threshold 20000
namespace Rz
end Rz
/-! RzG40 -/
set_option linter.all false
set_option maxRecDepth 100000
set_option exponentiation.threshold 20000
namespace Rz
end Rz
/-! RzG41 -/
set_option linter.all false
set_option maxRecDepth 100000
set_option exponentiation.threshold 20000
namespace Rz
theorem eq_iL_nil (F : List Nat) : op2 .eq (iL F) (.lst []) = some (.bl F.isEmpty) := ints_nil F
end Rz
/-! RzG42 -/
set_option linter.all false
set_option maxRecDepth 100000
set_option exponentiation.threshold 20000
namespace Rz
/-! ### sizes of the limit -/
theorem cd_mono (e : Nat) {a b : Nat} (h : a ≤ b) (hb : b ≤ 3) : cd e a ≤ cd e b := by
  have ha : a = 0 ∨ a = 1 ∨ a = 2 ∨ a = 3 := by omega
  have hb : b = 0 ∨ b = 1 ∨ b = 2 ∨ b = 3 := by omega
  rcases ha with rfl | rfl | rfl | rfl <;> rcases hb with rfl | rfl | rfl | rfl <;> simp only [cd] <;> omega
theorem grow_ge (n : Nat) (B : List Vc) (x : Vc) : B.length ≤ (grow n B x).length := by
  unfold grow
  split <;> simp
/-- a basis of at most three rows over one number, however many rows it is made of -/
theorem Cb.base' {e n : Nat} : ∀ (R : List Vc), (basis n R).length ≤ 3 → (∀ x ∈ R, Rb n e x) → ∃ D, Cb n D (2 ^ cd e (basis n R).length) (basis n R) :=
  list_rev_ind (fun _ _ => ⟨1, cb_nil n⟩) fun R a ih hl h => by
    rw [basis_snoc] at hl ⊢
    have ge := grow_ge n (basis n R) a
    obtain ⟨D, hD⟩ := ih (by omega) fun x hx => h x (List.mem_append_left _ hx)
    by_cases k : Sp n (basis n R) a
    · rw [grow_none (basis_bas n R) k]
      exact ⟨D, hD⟩
    · have gl := grow_len k
      obtain ⟨E, e1, e2, e3⟩ := (h a (List.mem_append_right _ (List.mem_singleton.mpr rfl))).ex
      obtain ⟨D', h'⟩ := hD.grow (basis_bas n R) e1 e2 e3
      have st := cd_step e (basis n R).length (by omega)
      rw [gl]
      exact ⟨D', h'.pos, by have := h'.le; omega, fun b hb c hc => by
        obtain ⟨z, q, hz⟩ := h'.z b hb c hc
        exact ⟨z, q, by omega⟩⟩
theorem solve_cd {m e k : Nat} {R : List Vc} {f : Vc} (h : solve m R = some f) (hl : (basis (m + 1) R).length ≤ k) (hk : k ≤ 3) (hR : ∀ x ∈ R, Rb (m + 1) e x) : Rb m (cd e k) f := by
  obtain ⟨D, hD⟩ := Cb.base' R (by omega) hR
  obtain ⟨h1, h2⟩ := fillF_some (basis_bas (m + 1) R) h
  have le : (2 : Nat) ^ cd e (basis (m + 1) R).length ≤ 2 ^ (cd e k) := Nat.pow_le_pow_right (by decide) (cd_mono e hl hk)
  refine ⟨D, hD.pos, Nat.le_trans hD.le le, fun c hc => ?_⟩
  by_cases k : ∃ b ∈ basis (m + 1) R, ld (m + 1) b = c
  · obtain ⟨b, hb, rfl⟩ := k
    obtain ⟨z, e, hz⟩ := hD.z b hb m (by omega)
    exact ⟨z, by rw [(h1 b hb).2]; exact e, by omega⟩
  · exact ⟨0, by rw [h2 c fun b hb e => k ⟨b, hb, e⟩]; grind, Nat.zero_le _⟩
/-- a row with some numbers put in -/
theorem put_rb {n a : Nat} {f x : Vc} {l : List Nat} (nd : l.Nodup) (hf : Rb l.length a f) (hx : ∀ i, i < n → x i = 0 ∨ x i = 1) : Rb n a (putN l f x) := by
  obtain ⟨D, d1, d2, d3⟩ := hf.ex
  refine ⟨D, d1, d2, fun c hc => ?_⟩
  by_cases m : c ∈ l
  · obtain ⟨i, hi, rfl⟩ := mem_getD m
    rw [putN_at nd hi]
    exact d3 i hi
  · rw [putN_out m]
    rcases hx c hc with e | e <;> rw [e]
    · exact ⟨0, by grind, Nat.zero_le _⟩
    · exact ⟨(D : Int), by push_cast; grind, by omega⟩
end Rz
/-! RzG43 -/
set_option linter.all false
set_option maxRecDepth 100000
set_option exponentiation.threshold 20000
namespace Rz
theorem flat_repD (m : Nat) (d : D) : (List.replicate m [d]).flatten = (List.range m).map fun _ => d := by
  induction m with
  | zero => rfl
  | succ m ih => rw [List.replicate_succ, List.flatten_cons, ih, List.range_succ_eq_map, List.map_cons, List.map_map]; rfl
theorem mul_t (d : D) (m : Nat) (hm : m ≤ 1000) : op2 .mul (.tup [d]) (.int (m : Int)) = some (tf m fun _ => d) := by
  have e0 : op2 .mul (.tup [d]) (.int (m : Int)) = (if (shortI (m : Int) && Nat.ble (1 * (m : Int).toNat) lineN) = true then some (D.tup (List.replicate (m : Int).toNat [d]).flatten) else none) := rfl
  have e2 : Nat.ble (1 * (m : Int).toNat) lineN = true := le_line (by omega)
  rw [e0, if_pos (by rw [short_n (by omega), e2]; rfl), Int.toNat_natCast, flat_repD]; rfl
end Rz
/-! RzG44 -/
set_option linter.all false
set_option maxRecDepth 100000
set_option exponentiation.threshold 20000
namespace Rz
/-! ### tables over one number; limits and stays by the program -/
structure Mz (n a : Nat) (A : Nat → Nat → Rat) : Prop where
  ex : ∃ D : Nat, 0 < D ∧ D ≤ 2 ^ a ∧ ∀ i j, i < n → j < n → ∃ z : Int, A i j * (D : Rat) = (z : Rat) ∧ z.natAbs ≤ 2 ^ a
theorem Mz.row {n a : Nat} {A : Nat → Nat → Rat} (h : Mz n a A) {i : Nat} (hi : i < n) : Rb n a (A i) := by
  obtain ⟨D, d1, d2, d3⟩ := h.ex
  exact ⟨D, d1, d2, fun c hc => d3 i c hi hc⟩
theorem Mz.sm {n a : Nat} {A : Nat → Nat → Rat} (h : Mz n a A) (ha : a ≤ 6600) {i j : Nat} (hi : i < n) (hj : j < n) : Sm (A i j) := (h.row hi).sm ha hj
theorem rb_smd {n a b : Nat} {x y : Vc} (hx : Rb n a x) (hy : Rb n b y) (hn : n ≤ 900) (h : a + b + 10 ≤ 6600) : SmD n x y :=
  ⟨fun i hi => hx.sm (by omega) hi, fun i hi => hy.sm (by omega) hi, rbx_sum hx hy hn h⟩
theorem rb_sms {n a : Nat} {x : Vc} (hx : Rb n a x) (hn : n ≤ 900) (h : a + 10 ≤ 6600) : SmS n x := by
  have one : Rb n 0 (fun _ => (1 : Rat)) := ⟨1, by decide, by decide, fun c hc => ⟨1, by simp, by decide⟩⟩
  have := rbx_sum hx one hn (by omega)
  have e : (fun c => x c * (1 : Rat)) = x := by funext c; grind
  rwa [e] at this
theorem sh_mz {n W a : Nat} {P : Nat → Nat → Rat} (sh : Sh n W P) (hW : W ≤ 2 ^ a) : Mz n a P :=
  ⟨W, sh.W0, hW, fun i j hi hj => by
    have d := sh.dr i hi
    obtain ⟨z, e, hz⟩ := iz_le1 (d.iz j hj) (d.lo j hj) (d.le1 hj)
    exact ⟨z, e, by omega⟩⟩
end Rz
/-! RzG45 -/
set_option linter.all false
set_option maxRecDepth 100000
set_option exponentiation.threshold 20000
namespace Rz
end Rz
/-! RzG46 -/
set_option linter.all false
set_option maxRecDepth 100000
set_option exponentiation.threshold 20000
namespace Rz
/-! ### least lids: the shares that ever come into a vessel -/
/-- a mean that is as great as the greatest -/
theorem row_max {n : Nat} {c x : Vc} {M : Rat} (h0 : ∀ j, j < n → 0 ≤ c j) (hs : sumN n c ≤ 1) (hM : ∀ j, j < n → c j ≠ 0 → x j ≤ M) (hp : 0 < M) (e : M ≤ sumN n fun j => c j * x j) : sumN n c = 1 ∧ ∀ j, j < n → c j ≠ 0 → x j = M := by
  have t0 : ∀ j, j < n → 0 ≤ c j * (M - x j) := fun j hj => by
    by_cases z : c j = 0
    · rw [z]; grind
    · exact Rat.mul_nonneg (h0 j hj) (by have := hM j hj z; grind)
  have es : sumN n (fun j => c j * (M - x j)) = M * sumN n c - sumN n fun j => c j * x j := by
    have e1 : (fun j => c j * (M - x j)) = fun j => M * c j + -1 * (c j * x j) := by funext j; grind
    rw [e1, sumN_add, sumN_mull, sumN_mull]; grind
  have up : M * sumN n c ≤ M := by
    have := Rat.mul_le_mul_of_nonneg_left hs (Rat.le_of_lt hp)
    grind
  have nn := sumN_nn t0
  rw [es] at nn
  have eq : M * sumN n c = M := by grind
  have s1 : sumN n c = 1 := by
    have h0 : M * (sumN n c - 1) = 0 := by grind
    rcases Rat.mul_eq_zero.mp h0 with z | z
    · rw [z] at hp; exact absurd hp (by decide)
    · grind
  refine ⟨s1, fun j hj hne => ?_⟩
  have z : c j * (M - x j) = 0 := by
    have a := sumN_le t0 hj
    rw [es] at a
    have b := t0 j hj
    have a' : c j * (M - x j) ≤ M * sumN n c - sumN n fun j => c j * x j := a
    rw [eq] at a'
    grind
  rcases Rat.mul_eq_zero.mp z with z | z
  · exact absurd z hne
  · grind
def lidV (n : Nat) (P : Nat → Nat → Rat) (a : Nat) : Vc := comV n P [a]
section
variable {n : Nat} {P : Nat → Nat → Rat} {a : Nat}
theorem ind1_sum (ha : a < n) (y : Vc) : sumN n (fun q => y q * indR [a] q) = y a := by
  rw [sumN_single ha fun c _ ne => by
    unfold indR
    rw [if_neg (by simpa using ne)]; grind]
  unfold indR
  rw [if_pos (by simp)]; grind
theorem lid_ok (T : Tbl n P) (ha : a < n) : lidV n P a a = 1 ∧ (∀ i, i < n → hopB n (patB P) [a] i = false → lidV n P a i = 0) ∧ ∀ i, i < n → i ≠ a → lidV n P a i = sumN n fun j => P i j * lidV n P a j := by
  obtain ⟨f, h⟩ := come_some (R := [a]) T
  have cv : lidV n P a = comH [a] (someN n (patB P) [a]) f := by unfold lidV comV; rw [h]
  rw [cv]
  have hold := solve_some h
  have nd := nd_some n (patB P) [a]
  have sm : ∀ i, i ∈ someN n (patB P) [a] ↔ i < n ∧ hopB n (patB P) [a] i = true ∧ i ∉ [a] := fun i => mem_some
  generalize someN n (patB P) [a] = S at *
  have lt : ∀ p ∈ S, p < n := fun p hp => ((sm p).mp hp).1
  have one : comH [a] S f a = 1 := by
    unfold comH
    rw [putN_out fun z => ((sm a).mp z).2.2 (by simp)]
    unfold indR; rw [if_pos (by simp)]
  have zero : ∀ i, i < n → hopB n (patB P) [a] i = false → comH [a] S f i = 0 := fun i hi hh => by
    have nS : i ∉ S := fun z => by
      have := ((sm i).mp z).2.1
      rw [hh] at this; cases this
    have nR : i ∉ [a] := fun z => by
      have := hop_mem T hi z
      rw [hh] at this; cases this
    unfold comH
    rw [putN_out nS]
    unfold indR; rw [if_neg nR]
  refine ⟨one, zero, fun i hi ne => ?_⟩
  have mR : i ∉ [a] := by simpa using ne
  by_cases mS : i ∈ S
  · obtain ⟨b, hb, rfl⟩ := mem_getD mS
    have tot := putN_sum (n := n) (P (S.getD b 0)) (l := S) (f := f) (x := indR [a]) nd lt fun p hp => by
      unfold indR; rw [if_neg ((sm p).mp hp).2.2]
    have e0 : comH [a] S f (S.getD b 0) = f b := putN_at nd hb
    have r := hold _ (List.mem_map.mpr ⟨b, List.mem_range.mpr hb, rfl⟩)
    unfold Holds at r
    have e2 : up (comA P S b) S.length (comQ P S [a] b) S.length = comQ P S [a] b := by simp [up]
    rw [e2] at r
    have e3 : (sumN S.length fun c => up (comA P S b) S.length (comQ P S [a] b) c * f c) = (sumN S.length fun c => idN b c * f c) + -1 * sumN S.length fun c => P (S.getD b 0) (S.getD c 0) * f c := by
      rw [← sumN_mull, ← sumN_add]
      refine sumN_congr fun c hc => ?_
      have : up (comA P S b) S.length (comQ P S [a] b) c = comA P S b c := by simp only [up]; rw [if_neg (by omega)]
      rw [this]
      show (idN (S.getD b 0) (S.getD c 0) - _) * f c = _
      rw [idN_nodup nd hc hb]; grind
    rw [e3, sumN_idN f hb] at r
    rw [e0]
    show f b = sumN n fun j => P (S.getD b 0) j * putN S f (indR [a]) j
    rw [tot, ind1_sum ha]
    have q : comQ P S [a] b = P (S.getD b 0) a := by
      show (0 : Rat) + P (S.getD b 0) a = _
      grind
    rw [q] at r
    grind
  · have hh : hopB n (patB P) [a] i = false := by
      cases e : hopB n (patB P) [a] i with
      | false => rfl
      | true => exact absurd ((sm i).mpr ⟨hi, e, mR⟩) mS
    rw [zero i hi hh, sumN_z fun j hj => ?_]
    by_cases e : P i j = 0
    · rw [e]; grind
    · have : comH [a] S f j = 0 := zero j hj (by
        cases q : hopB n (patB P) [a] j with
        | false => rfl
        | true =>
          have := hop_edge T hi hj (pat_of e) q
          rw [hh] at this; cases this)
      rw [this]; grind
/-- nothing comes into a vessel from a set that nothing leaves -/
theorem lid_closed (T : Tbl n P) (ha : a < n) {A : Nat → Prop} (cl : ∀ i, i < n → A i → ∀ j, j < n → P i j ≠ 0 → A j) (na : ¬ A a) : ∀ i, i < n → A i → lidV n P a i = 0 := fun i hi ai => by
  refine (lid_ok T ha).2.1 i hi ?_
  cases e : hopB n (patB P) [a] i with
  | false => rfl
  | true =>
    exfalso
    obtain ⟨o, ho, oR⟩ := List.any_eq_true.mp e
    have oR : o = a := by simpa using of_decide_eq_true oR
    subst oR
    obtain ⟨_, q⟩ := mem_rch.mp ho
    obtain ⟨k, hk, q⟩ := List.any_eq_true.mp q
    rw [Bool.and_eq_true] at q
    have hk := List.mem_range.mp hk
    exact na (cl k hk (cl i hi ai k hk (pat_ne q.1)) o ha (pat_ne q.2))
/-- what a round makes no less is no more than the least lid, but on sets that nothing leaves -/
theorem lid_cmp (T : Tbl n P) (ha : a < n) {m : Vc} (h1 : m a ≤ 1) (hm : ∀ i, i < n → i ≠ a → m i ≤ sumN n fun j => P i j * m j)
    (hA : ∀ (A : Nat → Prop) (M : Rat), 0 < M → (∀ j, j < n → A j → m j = M) → (∀ i, i < n → A i → sumN n (P i) = 1 ∧ ∀ j, j < n → P i j ≠ 0 → A j) → ¬ A a → ∀ i, i < n → ¬ A i) : ∀ i, i < n → m i ≤ lidV n P a i := by
  obtain ⟨v1, v2, v3⟩ := lid_ok T ha
  have cl := fun A c d => lid_closed T ha (A := A) c d
  generalize lidV n P a = v at *
  obtain ⟨k, hk, mx⟩ := has_max (fun i => m i - v i) T.n0
  by_cases c : m k - v k ≤ 0
  · intro i hi
    have := mx i hi
    grind
  · exfalso
    have hp : 0 < m k - v k := by grind
    have hd : ∀ i, i < n → m i - v i = m k - v k → sumN n (P i) = 1 ∧ ∀ j, j < n → P i j ≠ 0 → m j - v j = m k - v k := fun i hi e => by
      have ia : i ≠ a := fun z => by subst z; rw [v1] at e; grind
      refine row_max (fun j hj => T.nn i j hi hj) (T.le i hi) (fun j hj _ => mx j hj) hp ?_
      have e1 : (fun j => P i j * (m j - v j)) = fun j => P i j * m j + -1 * (P i j * v j) := by funext j; grind
      rw [e1, sumN_add, sumN_mull, ← v3 i hi ia]
      have := hm i hi ia
      grind
    have na : ¬ m a - v a = m k - v k := fun z => by rw [v1] at z; grind
    have vz := cl (fun i => m i - v i = m k - v k) (fun i hi ai j hj ne => (hd i hi ai).2 j hj ne) na
    exact hA (fun i => m i - v i = m k - v k) (m k - v k) hp (fun j hj aj => by have := vz j hj aj; grind) hd na k hk rfl
theorem lid_le1 (T : Tbl n P) (ha : a < n) : ∀ i, i < n → lidV n P a i ≤ 1 := by
  obtain ⟨v1, v2, v3⟩ := lid_ok T ha
  have cl := fun A c d => lid_closed T ha (A := A) c d
  generalize lidV n P a = v at *
  obtain ⟨k, hk, mx⟩ := has_max (fun i => v i - 1) T.n0
  by_cases c : v k - 1 ≤ 0
  · intro i hi
    have := mx i hi
    grind
  · exfalso
    have hp : 0 < v k - 1 := by grind
    have hd : ∀ i, i < n → v i - 1 = v k - 1 → sumN n (P i) = 1 ∧ ∀ j, j < n → P i j ≠ 0 → v j - 1 = v k - 1 := fun i hi e => by
      have ia : i ≠ a := fun z => by subst z; rw [v1] at e; grind
      refine row_max (fun j hj => T.nn i j hi hj) (T.le i hi) (fun j hj _ => mx j hj) hp ?_
      have e1 : (fun j => P i j * (v j - 1)) = fun j => P i j * v j + -1 * P i j := by funext j; grind
      rw [e1, sumN_add, sumN_mull, ← v3 i hi ia]
      have := T.le i hi
      grind
    have := cl (fun i => v i - 1 = v k - 1) (fun i hi ai j hj ne => (hd i hi ai).2 j hj ne) (fun z => by rw [v1] at z; grind) k hk rfl
    grind
theorem lid_nn (T : Tbl n P) (ha : a < n) : ∀ i, i < n → 0 ≤ lidV n P a i := by
  obtain ⟨v1, v2, v3⟩ := lid_ok T ha
  have cl := fun A c d => lid_closed T ha (A := A) c d
  generalize lidV n P a = v at *
  obtain ⟨k, hk, mx⟩ := has_max (fun i => -1 * v i) T.n0
  by_cases c : -1 * v k ≤ 0
  · intro i hi
    have := mx i hi
    grind
  · exfalso
    have hp : 0 < -1 * v k := by grind
    have hd : ∀ i, i < n → -1 * v i = -1 * v k → sumN n (P i) = 1 ∧ ∀ j, j < n → P i j ≠ 0 → -1 * v j = -1 * v k := fun i hi e => by
      have ia : i ≠ a := fun z => by subst z; rw [v1] at e; grind
      refine row_max (fun j hj => T.nn i j hi hj) (T.le i hi) (fun j hj _ => mx j hj) hp ?_
      have e1 : (fun j => P i j * (-1 * v j)) = fun j => -1 * (P i j * v j) := by funext j; grind
      rw [e1, sumN_mull, ← v3 i hi ia]
      grind
    have := cl (fun i => -1 * v i = -1 * v k) (fun i hi ai j hj ne => (hd i hi ai).2 j hj ne) (fun z => by rw [v1] at z; grind) k hk rfl
    grind
theorem lid_sup (T : Tbl n P) (ha : a < n) {i : Nat} (hi : i < n) : (sumN n fun j => P i j * lidV n P a j) ≤ lidV n P a i := by
  obtain ⟨v1, v2, v3⟩ := lid_ok T ha
  by_cases c : i = a
  · subst c
    rw [v1]
    refine Rat.le_trans (sumN_le_sumN (y := P i) fun j hj => ?_) (T.le i hi)
    have h1 := T.nn i j hi hj
    have := Rat.mul_le_mul_of_nonneg_left (lid_le1 T ha j hj) h1
    grind
  · rw [← v3 i hi c]; exact Rat.le_refl
end
/-! ### two tables, a choice of rows -/
def mixP (P Q : Nat → Nat → Rat) (p : Nat → Bool) (i : Nat) : Vc := if p i = true then Q i else P i
theorem mix_tbl {n : Nat} {P Q : Nat → Nat → Rat} (TP : Tbl n P) (TQ : Tbl n Q) (p : Nat → Bool) : Tbl n (mixP P Q p) :=
  ⟨TP.n0, TP.n3, fun i j hi hj => by
    unfold mixP; split
    · exact TQ.nn i j hi hj
    · exact TP.nn i j hi hj, fun i hi => by
    unfold mixP; split
    · exact TQ.le i hi
    · exact TP.le i hi, fun i hi => by
    unfold mixP; split
    · exact TQ.dg i hi
    · exact TP.dg i hi⟩
theorem mix_row {P Q : Nat → Nat → Rat} {p q : Nat → Bool} {i : Nat} (h : p i = q i) : mixP P Q p i = mixP P Q q i := by unfold mixP; rw [h]
section
variable {n : Nat} {P Q : Nat → Nat → Rat} {a : Nat}
theorem sum_mono {c x y : Vc} (h0 : ∀ j, j < n → 0 ≤ c j) (h : ∀ j, j < n → x j ≤ y j) : (sumN n fun j => c j * x j) ≤ sumN n fun j => c j * y j := sumN_le_sumN fun j hj => Rat.mul_le_mul_of_nonneg_left (h j hj) (h0 j hj)
theorem best2 (TP : Tbl n P) (TQ : Tbl n Q) (ha : a < n) (p q : Nat → Bool) : ∃ r : Nat → Bool, (∀ i, i < n → lidV n (mixP P Q p) a i ≤ lidV n (mixP P Q r) a i) ∧ ∀ i, i < n → lidV n (mixP P Q q) a i ≤ lidV n (mixP P Q r) a i := by
  have Tp := mix_tbl TP TQ p
  have Tq := mix_tbl TP TQ q
  obtain ⟨p1, p2, p3⟩ := lid_ok Tp ha
  obtain ⟨q1, q2, q3⟩ := lid_ok Tq ha
  have pc := fun A c d => lid_closed Tp ha (A := A) c d
  have qc := fun A c d => lid_closed Tq ha (A := A) c d
  refine ⟨fun i => if lidV n (mixP P Q p) a i < lidV n (mixP P Q q) a i then q i else p i, ?_⟩
  have rw1 : ∀ i, mixP P Q (fun i => if lidV n (mixP P Q p) a i < lidV n (mixP P Q q) a i then q i else p i) i = if lidV n (mixP P Q p) a i < lidV n (mixP P Q q) a i then mixP P Q q i else mixP P Q p i := fun i => by
    by_cases c : lidV n (mixP P Q p) a i < lidV n (mixP P Q q) a i
    · rw [if_pos c]; exact mix_row (if_pos c)
    · rw [if_neg c]; exact mix_row (if_neg c)
  have Tr := mix_tbl TP TQ fun i => if lidV n (mixP P Q p) a i < lidV n (mixP P Q q) a i then q i else p i
  generalize (mixP P Q fun i => if lidV n (mixP P Q p) a i < lidV n (mixP P Q q) a i then q i else p i) = R at *
  generalize lidV n (mixP P Q p) a = vp at *
  generalize lidV n (mixP P Q q) a = vq at *
  have np : ∀ i j, i < n → j < n → 0 ≤ mixP P Q p i j := Tp.nn
  have nq : ∀ i j, i < n → j < n → 0 ≤ mixP P Q q i j := Tq.nn
  generalize mixP P Q p = Pp at *
  generalize mixP P Q q = Pq at *
  have mle : ∀ i, vp i ≤ (if vp i < vq i then vq i else vp i) ∧ vq i ≤ (if vp i < vq i then vq i else vp i) := fun i => by
    by_cases c : vp i < vq i
    · rw [if_pos c]; exact ⟨Rat.le_of_lt c, Rat.le_refl⟩
    · rw [if_neg c]; exact ⟨Rat.le_refl, by grind⟩
  have key := lid_cmp (m := fun i => if vp i < vq i then vq i else vp i) Tr ha (by rw [p1, q1]; decide) (fun i hi ne => by
    rw [rw1 i]
    by_cases c : vp i < vq i
    · rw [if_pos c, if_pos c]
      have := sum_mono (n := n) (fun j hj => nq i j hi hj) fun j _ => (mle j).2
      rw [← q3 i hi ne] at this
      exact this
    · rw [if_neg c, if_neg c]
      have := sum_mono (n := n) (fun j hj => np i j hi hj) fun j _ => (mle j).1
      rw [← p3 i hi ne] at this
      exact this) fun A M hM hA cl na => by
    have none_p : ∀ i, i < n → A i → vp i < vq i := fun i hi ai => Classical.byContradiction fun c => by
      have step : ∀ k, k < n → (A k ∧ ¬ vp k < vq k) → ∀ j, j < n → Pp k j ≠ 0 → (A j ∧ ¬ vp j < vq j) := fun k hk ⟨ak, ck⟩ j hj ne => by
        have ka : k ≠ a := fun z => na (z ▸ ak)
        have er : R k = Pp k := by rw [rw1 k, if_neg ck]
        have e1 := hA k hk ak
        simp only [if_neg ck] at e1
        have cl' := (cl k hk ak).2
        rw [er] at cl'
        have := (row_max (M := M) (c := Pp k) (x := vp) (fun j hj => np k j hk hj) (Tp.le k hk) (fun j hj ne => by
          have e2 := hA j hj (cl' j hj ne)
          rw [← e2]; exact (mle j).1) hM (by rw [← p3 k hk ka, e1]; exact Rat.le_refl)).2 j hj ne
        have aj := cl' j hj ne
        refine ⟨aj, fun z => ?_⟩
        have e2 := hA j hj aj
        simp only [if_pos z] at e2
        rw [this, e2] at z
        exact absurd z (by grind)
      have z := pc (fun k => A k ∧ ¬ vp k < vq k) step (fun z => na z.1) i hi ⟨ai, c⟩
      have e1 := hA i hi ai
      simp only [if_neg c] at e1
      rw [z] at e1
      rw [← e1] at hM
      exact absurd hM (by decide)
    intro i hi ai
    have step : ∀ k, k < n → A k → ∀ j, j < n → Pq k j ≠ 0 → A j := fun k hk ak j hj ne => by
      have er : R k = Pq k := by rw [rw1 k, if_pos (none_p k hk ak)]
      have cl' := (cl k hk ak).2
      rw [er] at cl'
      exact cl' j hj ne
    have z := qc A step na i hi ai
    have e1 := hA i hi ai
    simp only [if_pos (none_p i hi ai)] at e1
    rw [z] at e1
    rw [← e1] at hM
    exact absurd hM (by decide)
  exact ⟨fun i hi => Rat.le_trans (mle i).1 (key i hi), fun i hi => Rat.le_trans (mle i).2 (key i hi)⟩
/-- the greatest of all choices is a lid by both tables -/
theorem best_sup (TP : Tbl n P) (TQ : Tbl n Q) (ha : a < n) {r : Nat → Bool} (best : ∀ q : Nat → Bool, ∀ i, i < n → lidV n (mixP P Q q) a i ≤ lidV n (mixP P Q r) a i) (b : Bool) {i : Nat} (hi : i < n) :
    (sumN n fun j => (if b = true then Q i else P i) j * lidV n (mixP P Q r) a j) ≤ lidV n (mixP P Q r) a i := by
  have Tr := mix_tbl TP TQ r
  obtain ⟨r1, r2, r3⟩ := lid_ok Tr ha
  have rc := fun A c d => lid_closed Tr ha (A := A) c d
  by_cases ia : i = a
  · subst ia
    rw [r1]
    have le1 := lid_le1 Tr ha
    have row : (∀ j, j < n → 0 ≤ (if b = true then Q i else P i) j) ∧ sumN n (if b = true then Q i else P i) ≤ 1 := by
      split
      · exact ⟨fun j hj => TQ.nn i j hi hj, TQ.le i hi⟩
      · exact ⟨fun j hj => TP.nn i j hi hj, TP.le i hi⟩
    refine Rat.le_trans (sumN_le_sumN (y := if b = true then Q i else P i) fun j hj => ?_) row.2
    have := Rat.mul_le_mul_of_nonneg_left (le1 j hj) (row.1 j hj)
    grind
  · refine Classical.byContradiction fun no => ?_
    have gt : lidV n (mixP P Q r) a i < sumN n fun j => (if b = true then Q i else P i) j * lidV n (mixP P Q r) a j := by grind
    have Tq := mix_tbl TP TQ (up r i b)
    obtain ⟨q1, q2, q3⟩ := lid_ok Tq ha
    have bq := best (up r i b) i hi
    have rowi : mixP P Q (up r i b) i = if b = true then Q i else P i := mix_row (q := fun _ => b) (by simp [up])
    have rowk : ∀ k, k ≠ i → mixP P Q (up r i b) k = mixP P Q r k := fun k hk => mix_row (by simp [up, hk])
    rw [← rowi] at gt
    have key := lid_cmp (m := lidV n (mixP P Q r) a) Tq ha (by rw [r1]; exact Rat.le_refl) (fun k hk ka => by
      by_cases c : k = i
      · subst c; exact Rat.le_of_lt gt
      · rw [rowk k c, ← r3 k hk ka]; exact Rat.le_refl) fun A M hM hA cl na => by
      intro k hk ak
      by_cases ai : A i
      · obtain ⟨s1, st⟩ := cl i hi ai
        have e : (sumN n fun j => mixP P Q (up r i b) i j * lidV n (mixP P Q r) a j) = sumN n fun j => M * mixP P Q (up r i b) i j := sumN_congr fun j hj => by
          by_cases z : mixP P Q (up r i b) i j = 0
          · rw [z]; grind
          · rw [hA j hj (st j hj z)]; grind
        rw [e, sumN_mull, s1, hA i hi ai] at gt
        exact absurd gt (by grind)
      · have z := rc A (fun c hc ac j hj ne => by
          have ci : c ≠ i := fun z => ai (z ▸ ac)
          have := (cl c hc ac).2 j hj
          rw [rowk c ci] at this
          exact this ne) na k hk ak
        have e1 := hA k hk ak
        rw [z] at e1
        rw [← e1] at hM
        exact absurd hM (by decide)
    have s := sum_mono (n := n) (c := mixP P Q (up r i b) i) (fun j hj => Tq.nn i j hi hj) key
    rw [← q3 i hi ia] at s
    grind
end
end Rz
/-! RzG47 -/
set_option linter.all false
set_option maxRecDepth 100000
set_option exponentiation.threshold 20000
namespace Rz
/-! ### tables whose rows come from ways; the greatest of all choices -/
structure Tm (n : Nat) (P : Nat → Nat → Rat) : Prop where
  t : Tbl n P
  w : ∀ i, i < n → ∃ W : Nat, 0 < W ∧ W ≤ 2 ^ 29 ∧ Dr W 1 n (P i)
theorem tm_of {n : Nat} {V : Ves} {ss : List Stp} (h : WayOk n V ss) : Tm n (Tb V ss) := by
  obtain ⟨W, hW, sh⟩ := way_sh h
  exact ⟨tbl_of h, fun i hi => ⟨W, sh.W0, hW, sh.dr i hi⟩⟩
theorem tm_mix {n : Nat} {P Q : Nat → Nat → Rat} (hP : Tm n P) (hQ : Tm n Q) (p : Nat → Bool) : Tm n (mixP P Q p) :=
  ⟨mix_tbl hP.t hQ.t p, fun i hi => by
    unfold mixP; split
    · exact hQ.w i hi
    · exact hP.w i hi⟩
theorem Tm.rb {n : Nat} {P : Nat → Nat → Rat} (h : Tm n P) {i : Nat} (hi : i < n) : Rb n 29 (P i) := by
  obtain ⟨W, w0, hW, d⟩ := h.w i hi
  exact ⟨W, w0, hW, fun j hj => by
    obtain ⟨z, e, hz⟩ := iz_le1 (d.iz j hj) (d.lo j hj) (d.le1 hj)
    exact ⟨z, e, by omega⟩⟩
theorem Tm.sm {n : Nat} {P : Nat → Nat → Rat} (h : Tm n P) {i j : Nat} (hi : i < n) (hj : j < n) : Sm (P i j) := (h.rb hi).sm (by decide) hj
theorem Tm.sms {n : Nat} {P : Nat → Nat → Rat} (h : Tm n P) {i : Nat} (hi : i < n) : SmS n (P i) := rb_sms (h.rb hi) (by have := h.t.n3; omega) (by decide)
theorem pat_congr {n : Nat} {P Q : Nat → Nat → Rat} (h : ∀ i j, i < n → j < n → P i j = Q i j) : ∀ i j, i < n → j < n → patB P i j = patB Q i j := fun i j hi hj => by unfold patB; rw [h i j hi hj]
theorem some_congr {n : Nat} {B C : Nat → Nat → Bool} (h : ∀ i j, i < n → j < n → B i j = C i j) (R : List Nat) : someN n B R = someN n C R := by
  unfold someN
  refine List.filter_congr fun i hi => ?_
  have hi := List.mem_range.mp hi
  unfold hopB
  rw [rch_congr h hi]
theorem lid_congr {n a : Nat} {P Q : Nat → Nat → Rat} (n0 : 0 < n) (ha : a < n) (h : ∀ i j, i < n → j < n → P i j = Q i j) : lidV n P a = lidV n Q a := by
  unfold lidV comV
  rw [some_congr (pat_congr h)]
  have lt : ∀ c, (someN n (patB Q) [a]).getD c 0 < n := fun c => by
    by_cases hc : c < (someN n (patB Q) [a]).length
    · exact (mem_some.mp (getD_mem hc)).1
    · rw [List.getD_eq_getElem?_getD, List.getElem?_eq_none (by omega)]; exact n0
  have e : comR P (someN n (patB Q) [a]) [a] = comR Q (someN n (patB Q) [a]) [a] := by
    unfold comR augs
    refine List.map_congr_left fun b _ => ?_
    have e1 : comA P (someN n (patB Q) [a]) b = comA Q (someN n (patB Q) [a]) b := by
      funext c
      unfold comA
      rw [h _ _ (lt b) (lt c)]
    have e2 : comQ P (someN n (patB Q) [a]) [a] b = comQ Q (someN n (patB Q) [a]) [a] b := by
      show (0 : Rat) + P _ a = 0 + Q _ a
      rw [h _ _ (lt b) ha]
    rw [e1, e2]
  rw [e]
def polN : Nat → List (Nat → Bool)
  | 0 => [fun _ => false]
  | k + 1 => ((polN k).map fun p => up p k false) ++ (polN k).map fun p => up p k true
theorem pol_any (p : Nat → Bool) : ∀ k, ∃ q ∈ polN k, ∀ i, i < k → q i = p i
  | 0 => ⟨_, List.mem_singleton.mpr rfl, fun i hi => by omega⟩
  | k + 1 => by
    obtain ⟨q, hq, h⟩ := pol_any p k
    refine ⟨up q k (p k), ?_, fun i hi => ?_⟩
    · show _ ∈ _ ++ _
      rw [List.mem_append]
      cases e : p k with
      | false => exact .inl (List.mem_map.mpr ⟨q, hq, rfl⟩)
      | true => exact .inr (List.mem_map.mpr ⟨q, hq, rfl⟩)
    · simp only [up]
      by_cases c : i = k
      · rw [if_pos c, c]
      · rw [if_neg c]; exact h i (by omega)
theorem pol_len : ∀ k, (polN k).length = 2 ^ k
  | 0 => rfl
  | k + 1 => by
    show (_ ++ _ : List _).length = _
    rw [List.length_append, List.length_map, List.length_map, pol_len k, Nat.pow_succ]; omega
def mxl (z : Rat) (l : List Rat) : Rat := l.foldl (fun m x => if m < x then x else m) z
theorem mxl_best {b : Rat} : ∀ {l : List Rat} {z : Rat}, z ≤ b → (∀ x ∈ l, x ≤ b) → (b ∈ l ∨ z = b) → mxl z l = b
  | [], z, _, _, h => h.elim (fun h => (List.not_mem_nil h).elim) id
  | x :: l, z, hz, hx, h => by
    show mxl (if z < x then x else z) l = b
    have hx0 := hx x (List.mem_cons_self ..)
    by_cases c : z < x
    · rw [if_pos c]
      refine mxl_best hx0 (fun y hy => hx y (List.mem_cons_of_mem _ hy)) ?_
      rcases h with h | h
      · rcases List.mem_cons.mp h with h | h
        · exact .inr h.symm
        · exact .inl h
      · exact .inr (by grind)
    · rw [if_neg c]
      refine mxl_best hz (fun y hy => hx y (List.mem_cons_of_mem _ hy)) ?_
      rcases h with h | h
      · rcases List.mem_cons.mp h with h | h
        · exact .inr (by grind)
        · exact .inl h
      · exact .inr h
theorem mxl_mem : ∀ (l : List Rat) (z : Rat), mxl z l = z ∨ mxl z l ∈ l
  | [], z => .inl rfl
  | x :: l, z => by
    show mxl (if z < x then x else z) l = z ∨ mxl (if z < x then x else z) l ∈ x :: l
    rcases mxl_mem l (if z < x then x else z) with h | h
    · rw [h]
      split
      · exact .inr (List.mem_cons_self ..)
      · exact .inl rfl
    · exact .inr (List.mem_cons_of_mem _ h)
def lidM (n : Nat) (P Q : Nat → Nat → Rat) (a : Nat) (l : List (Nat → Bool)) : Vc := fun i => mxl 0 (l.map fun p => lidV n (mixP P Q p) a i)
section
variable {n a : Nat} {P Q : Nat → Nat → Rat}
theorem best_list (TP : Tbl n P) (TQ : Tbl n Q) (ha : a < n) : ∀ l : List (Nat → Bool), ∃ r : Nat → Bool, ∀ p ∈ l, ∀ i, i < n → lidV n (mixP P Q p) a i ≤ lidV n (mixP P Q r) a i
  | [] => ⟨fun _ => false, fun p hp => (List.not_mem_nil hp).elim⟩
  | p :: l => by
    obtain ⟨r, h⟩ := best_list TP TQ ha l
    obtain ⟨s, h1, h2⟩ := best2 TP TQ ha p r
    refine ⟨s, fun q hq i hi => ?_⟩
    rcases List.mem_cons.mp hq with rfl | hq
    · exact h1 i hi
    · exact Rat.le_trans (h q hq i hi) (h2 i hi)
theorem mix_same {p q : Nat → Bool} (h : ∀ i, i < n → p i = q i) : ∀ i j, i < n → j < n → mixP P Q p i j = mixP P Q q i j := fun i j hi _ => by rw [mix_row (h i hi)]
/-- the greatest of all choices is one of them -/
theorem lidM_eq (TP : Tbl n P) (TQ : Tbl n Q) (ha : a < n) : ∃ r : Nat → Bool, (∀ i, i < n → lidM n P Q a (polN n) i = lidV n (mixP P Q r) a i) ∧ ∀ q : Nat → Bool, ∀ i, i < n → lidV n (mixP P Q q) a i ≤ lidV n (mixP P Q r) a i := by
  obtain ⟨r, h⟩ := best_list TP TQ ha (polN n)
  have best : ∀ q : Nat → Bool, ∀ i, i < n → lidV n (mixP P Q q) a i ≤ lidV n (mixP P Q r) a i := fun q i hi => by
    obtain ⟨q', hq, e⟩ := pol_any q n
    have := h q' hq i hi
    rwa [lid_congr TP.n0 ha (mix_same e)] at this
  refine ⟨r, fun i hi => ?_, best⟩
  obtain ⟨r', hr, e⟩ := pol_any r n
  refine mxl_best (lid_nn (mix_tbl TP TQ r) ha i hi) (fun x hx => ?_) (.inl ?_)
  · obtain ⟨p, _, rfl⟩ := List.mem_map.mp hx
    exact best p i hi
  · exact List.mem_map.mpr ⟨r', hr, by rw [lid_congr TP.n0 ha (mix_same e)]⟩
/-! sizes -/
theorem lid_some_len (ha : a < n) : (someN n (patB P) [a]).length + 1 ≤ n := by
  have := sub_len (a :: someN n (patB P) [a]) (List.range n) (List.nodup_cons.mpr ⟨fun h => (mem_some.mp h).2.2 (by simp), nd_some _ _ _⟩) fun b hb => by
    rcases List.mem_cons.mp hb with rfl | h
    · exact List.mem_range.mpr ha
    · exact List.mem_range.mpr (mem_some.mp h).1
  simpa using this
theorem lid_row_rb (T : Tm n P) (ha : a < n) {S : List Nat} (hS : ∀ p ∈ S, p < n) : ∀ b, b < S.length → Rb (S.length + 1) 30 (up (comA P S b) S.length (comQ P S [a] b)) := fun b hb => by
  have hb' := hS _ (getD_mem hb)
  obtain ⟨W, w0, hW, d⟩ := T.w _ hb'
  have p30 : (2 : Nat) ^ 30 = 2 * 2 ^ 29 := by decide
  refine ⟨W, w0, by omega, fun c hc => ?_⟩
  by_cases e : c = S.length
  · obtain ⟨z, q, hz⟩ := iz_le1 (d.iz a ha) (d.lo a ha) (d.le1 ha)
    refine ⟨z, ?_, by omega⟩
    simp only [up]; rw [if_pos e]
    have : comQ P S [a] b = P (S.getD b 0) a := by
      show (0 : Rat) + P (S.getD b 0) a = _
      grind
    rw [this]; exact q
  · have hc' := hS _ (getD_mem (show c < S.length by omega))
    obtain ⟨z, q, hz⟩ := sub_id (i := S.getD b 0) (j := S.getD c 0) (iz_le1 (d.iz _ hc') (d.lo _ hc') (d.le1 hc')) (d.lo _ hc') (-1) (.inr rfl)
    refine ⟨z, ?_, by omega⟩
    simp only [up, comA]; rw [if_neg e, ← q]; grind
theorem lid_rb (T : Tm n P) (ha : a < n) : Rb n 99 (lidV n P a) := by
  obtain ⟨f, e⟩ := come_some (R := [a]) T.t
  have n3 := T.t.n3
  have sl := lid_some_len (P := P) ha
  have bl := basis_le ((someN n (patB P) [a]).length + 1) (comR P (someN n (patB P) [a]) [a])
  have : (comR P (someN n (patB P) [a]) [a]).length = (someN n (patB P) [a]).length := by unfold comR augs; simp
  have h := solve_cd e (k := (someN n (patB P) [a]).length) (by omega) (by omega) fun x hx => by
    obtain ⟨b, hb, rfl⟩ := List.mem_map.mp hx
    exact lid_row_rb T ha (fun p hp => (mem_some.mp hp).1) b (List.mem_range.mp hb)
  unfold lidV comV
  rw [e]
  have r := put_rb (n := n) (x := indR [a]) (nd_some _ _ _) h fun i _ => by
    unfold indR
    split
    · exact .inr rfl
    · exact .inl rfl
  refine r.mono ?_
  have := cd_mono 30 (show (someN n (patB P) [a]).length ≤ 2 by omega) (by omega)
  exact this
end
end Rz
/-! RzG48 -/
set_option linter.all false
set_option maxRecDepth 100000
set_option exponentiation.threshold 20000
namespace Rz
/-! ### the least lid, by the program -/
theorem T_least_for : TT i_least_for = some d_least_for := rfl
theorem lid_list (n : Nat) (B : Nat → Nat → Bool) (a : Nat) (L : Nat → List Nat) (h : ∀ i, i < n → (a ∈ L i ↔ a ∈ rchN n B i)) : (List.range n).filter (fun i => !decide (i = a) && decide (a ∈ L i)) = someN n B [a] := by
  unfold someN
  refine List.filter_congr fun i hi => ?_
  have hi := List.mem_range.mp hi
  have e : hopB n B [a] i = decide (a ∈ L i) := by
    unfold hopB
    rw [Bool.eq_iff_iff, List.any_eq_true, decide_eq_true_iff, h i hi]
    constructor
    · rintro ⟨o, ho, q⟩
      have : o = a := by simpa using of_decide_eq_true q
      exact this ▸ ho
    · intro q
      exact ⟨a, q, decide_eq_true (by simp)⟩
  have e2 : decide (i ∈ [a]) = decide (i = a) := by simp
  rw [e, e2, Bool.and_comm]
theorem lid_hop (k n a : Nat) (P : Nat → Nat → Rat) (g : Gs) (T : Tbl n P) (y2 y3 y4 y5 y6 y7 y8 : Sl) : compD (evF TT (k + 1)) (.var 3) (.nm 3) [.and_ (.op .ne (.var 3) (.var 1)) (.op .isin (.var 1) (.call i_places_from [.var 0, .var 3]))] [.p (tab n n P), .p (.int (a : Int)), y2, y3, y4, y5, y6, y7, y8] g (some ((List.range n).map fun (i : Nat) => D.int (i : Int))) = .ok (iL (someN n (patB P) [a])) g := by
  rw [← lid_list n (patB P) a (rchN n (patB P)) fun _ _ => Iff.rfl]
  refine compD_f (List.range n) (fun (i : Nat) => D.int (i : Int)) (fun i => !decide (i = a) && decide (a ∈ rchN n (patB P) i)) (fun (i : Nat) => D.int (i : Int)) (by have := T.n3; simp; omega) fun i hi => ?_
  have hi := List.mem_range.mp hi
  refine ⟨[.p (tab n n P), .p (.int (a : Int)), y2, .p (.int (i : Int)), y4, y5, y6, y7, y8], rfl, ?_, fun _ => by simp only [evE_var, getS_z, getS_s, slV_p]⟩
  have pf := ev_places_from k n P i g T hi
  have ii := in_iL (rchN n (patB P) i) a
  have ne : op2 .ne (.int (i : Int)) (.int (a : Int)) = some (.bl (!decide (i = a))) := by
    rw [op_ne_i]
    congr 3
    exact decide_eq_decide.mpr (by omega)
  simp only [evE_and, evE_op, evE_call, evEs_cons, evEs_nil, evE_var, getS_z, getS_s, slV_p, bind_ok, ne, of_some, iteD_bl, pf, ii]
  cases decide (i = a) <;> simp
theorem lid_ind (k n a : Nat) (P : Nat → Nat → Rat) (g : Gs) (n3 : n ≤ 3) (y2 y3 y4 y5 y6 y7 y8 : Sl) : compD (evF TT k) (.ite (.op .eq (.var 3) (.var 1)) (.glo [85, 78, 73, 84] (.tup [(.int 1), (.int 1)])) (.glo [90, 69, 82, 79] (.tup [(.int 0),
    (.int 1)]))) (.nm 3) [] [.p (tab n n P), .p (.int (a : Int)), y2, y3, y4, y5, y6, y7, y8] g (some ((List.range n).map fun (i : Nat) => D.int (i : Int))) = .ok (lrow n (indR [a])) g :=
  compD_n (fun i => fr (indR [a] i)) (by omega) fun i hi => ⟨[.p (tab n n P), .p (.int (a : Int)), y2, .p (.int (i : Int)), y4, y5, y6, y7, y8], rfl, by
    by_cases m : i = a
    · have e : indR [a] i = 1 := by unfold indR; rw [if_pos (by simpa using m)]
      have : ((i : Int) = (a : Int)) := by omega
      rw [e]
      simp only [evE_ite, evE_op, evE_var, evE_glo, getS_z, getS_s, slV_p, bind_ok, op_eq_i, decide_eq_true this, of_some, iteD_bl, if_true]
      rfl
    · have e : indR [a] i = 0 := by unfold indR; rw [if_neg (by simpa using m)]
      have : ¬ ((i : Int) = (a : Int)) := by omega
      rw [e]
      simp only [evE_ite, evE_op, evE_var, evE_glo, getS_z, getS_s, slV_p, bind_ok, op_eq_i, decide_eq_false this, of_some, iteD_bl, Bool.false_eq_true, if_false]
      rfl⟩
def lidPut : List St := [.asg 4 (.op .add (.op .add (.sl .hi (.var 4) [.var 3]) (.lst [.var 8])) (.sl .lo (.var 4) [.op .add (.var 3) (.lit (.int 1))]))]
theorem lid_put (C : Nat → List D → Gs → R D) (n : Nat) (hn : n ≤ 1000) (g : Gs) (a0 a1 a2 a5 a6 a7 : Sl) : ∀ (l : List Nat) (f : Nat → Rat) (x : Vc) (y3 y8 : Sl), (∀ p ∈ l, p < n) →
    ∃ z3 z8, forL (bodyOf C lidPut) (.tp [.nm 3, .nm 8]) (((l.map fun (p : Nat) => D.int (p : Int)).zip ((List.range l.length).map fun c => fr (f c))).map fun p => D.tup [p.1, p.2]) [a0, a1, a2, y3, .p (lrow n x), a5, a6, a7, y8] g
      = .nx [a0, a1, a2, z3, .p (lrow n (putN l f x)), a5, a6, a7, z8] g := by
  intro l
  induction l with
  | nil => intro f x y3 y8 _; exact ⟨y3, y8, rfl⟩
  | cons p l ih =>
    intro f x y3 y8 h
    have e : (List.range (p :: l).length).map (fun c => fr (f c)) = fr (f 0) :: (List.range l.length).map fun c => fr (f (c + 1)) := by
      rw [List.length_cons, List.range_succ_eq_map, List.map_cons, List.map_map]; rfl
    rw [e, List.map_cons, List.zip_cons_cons, List.map_cons]
    obtain ⟨a, b, c, q1, q2, q3, q4⟩ := lrow_put n p x (f 0) (h p (List.mem_cons_self ..)) hn
    have bd : bodyOf C lidPut [a0, a1, a2, .p (.int (p : Int)), .p (lrow n x), a5, a6, a7, .p (fr (f 0))] g = .nx [a0, a1, a2, .p (.int (p : Int)), .p (lrow n (up x p (f 0))), a5, a6, a7, .p (fr (f 0))] g := by
      rw [bodyOf_eq]
      have e1 : (p : Int) + 1 = ((p + 1 : Nat) : Int) := by push_cast; rfl
      simp only [lidPut, evSs_cons, evSs_nil, evS_asg, evE_op, evE_sl, evE_lst, evEs_cons, evEs_nil, evE_var, evE_lit, evIs_cons, evIs_nil, toI_int, getS_z, getS_s, slV_p, bind_ok, q1, of_some, q2, op_add_i, e1, q3, q4, to_ok, setS_z, setS_s, thenS_nx]
    obtain ⟨z3, z8, q⟩ := ih (fun c => f (c + 1)) (up x p (f 0)) (.p (.int (p : Int))) (.p (fr (f 0))) fun q hq => h q (List.mem_cons_of_mem _ hq)
    refine ⟨z3, z8, ?_⟩
    rw [forL_nx (b := bodyOf C lidPut) (t := .tp [.nm 3, .nm 8]) (env := [a0, a1, a2, y3, .p (lrow n x), a5, a6, a7, y8]) (e1 := [a0, a1, a2, .p (.int (p : Int)), .p (lrow n x), a5, a6, a7, .p (fr (f 0))]) rfl bd]
    exact q
def lidFor : List St := [.app 5 (.bi .tuple [.comp (.call i_minus [.tup [.bi .int [.op .eq (.var 3) (.var 7)], .lit (.int 1)],
    .ix (.ix (.var 0) (.var 3)) (.var 7)]) (.nm 7) .seq [.var 2] []]), .app 6 (.ix (.ix (.var 0) (.var 3)) (.var 1))]
theorem comQ1 (P : Nat → Nat → Rat) (S : List Nat) (a b : Nat) : comQ P S [a] b = P (S.getD b 0) a := by
  show (0 : Rat) + P (S.getD b 0) a = _
  grind
theorem ev_least_for (k n a : Nat) (P : Nat → Nat → Rat) (g : Gs) (T : Tm n P) (ha : a < n) : evF TT (k + 7) i_least_for [tab n n P, .int (a : Int)] g = .ok (row n (lidV n P a)) g := by
  rw [evF_s T_least_for, runF_eq rfl]
  show outR (evSs (evF TT (k + 6)) b_least_for [.p (tab n n P), .p (.int (a : Int)), .u, .u, .u, .u, .u, .u, .u] g) = _
  have n3 := T.t.n3
  have hln : bi .len [tab n n P] = some (.int (n : Int)) := len_tf _ _
  have c1 := lid_hop (k + 5) n a P g T.t .u .u .u .u .u .u .u
  have c3 := fun y2 => lid_ind (k + 6) n a P g n3 y2 .u .u .u .u .u .u
  have lr := lrange_n (n := n) (by omega)
  have ilr : items .seq [lf n fun (i : Nat) => D.int (i : Int)] = some ((List.range n).map fun (i : Nat) => D.int (i : Int)) := items_seq (sq_lf _ _)
  generalize hU : (lf n fun (i : Nat) => D.int (i : Int)) = U at lr ilr
  obtain ⟨f, sf⟩ := come_some (R := [a]) T.t
  have cv : lidV n P a = comH [a] (someN n (patB P) [a]) f := by unfold lidV comV; rw [sf]
  have nd := nd_some n (patB P) [a]
  have lt : ∀ p ∈ someN n (patB P) [a], p < n := fun p hp => (mem_some.mp hp).1
  have sl := lid_some_len (P := P) ha
  rw [cv]
  generalize someN n (patB P) [a] = S at *
  have hR := lid_row_rb T ha lt
  have en := eq_iL_nil S
  generalize hbd : lidFor = body
  have hb : b_least_for = [.asg 2 (.comp (.var 3) (.nm 3) .rng [.bi .len [.var 0]] [.and_ (.op .ne (.var 3) (.var 1)) (.op .isin (.var 1) (.call i_places_from [.var 0, .var 3]))]),
    .asg 4 (.comp (.ite (.op .eq (.var 3) (.var 1)) (.glo [85, 78, 73, 84] (.tup [(.int 1), (.int 1)])) (.glo [90, 69, 82, 79] (.tup [(.int 0),
    (.int 1)]))) (.nm 3) .seq [.bi .lrange [.bi .len [.var 0]]] []), .ite (.op .eq (.var 2) (.lst [])) [.ret (.bi .tuple [.var 4])] [], .par [(true, 5), (true,
    6)] [.lst [], .lst []], .for_ (.nm 3) .seq [.var 2] body, .frz [5, 6], .for_ (.tp [(.nm 3),
    (.nm 8)]) .zip [.var 2, .call i_solved [.var 5, .var 6]] lidPut, .ret (.bi .tuple [.var 4])] := by rw [← hbd]; rfl
  rw [hb]
  have tpR : ∀ x : Vc, bi .tuple [lrow n x] = some (row n x) := fun x => tuple_lf _ _
  cases S with
  | nil =>
    simp only [List.isEmpty_nil] at en
    have e : comH [a] [] f = indR [a] := rfl
    rw [e]
    simp only [evSs_cons, evSs_nil, evS_asg, evS_ite, evE_comp, evE_bi, evE_op, evE_lst, evEs_cons, evEs_nil, evE_var, getS_z, getS_s, slV_p, bind_ok, hln, of_some, items_rng (show n ≤ 1000000 by omega), c1, to_ok, setS_z, setS_s, thenS_nx, lr, ilr, c3, en, iteD_bl, if_true, evS_ret, tpR, thenS_ret, outR_ret]
  | cons s0 S0 =>
    simp only [List.isEmpty_cons] at en
    generalize hS : s0 :: S0 = S at *
    have hpos : 0 < S.length := by rw [← hS]; simp
    obtain ⟨env', g', f1, hg, y3, y7, he'⟩ := forL_n (t := .nm 3) (f := fun (b : Nat) => D.int ((S.getD b 0 : Nat) : Int)) (b := bodyOf (evF TT (k + 6)) body) (env := [.p (tab n n P), .p (.int (a : Int)), .p (iL S), .u, .p (lrow n (indR [a])), .o (lf 0 fun b => row S.length (comA P S b)), .o (lf 0 fun b => fr (comQ P S [a] b)), .u, .u]) (g := g)
      (fun i en g' => g' = g ∧ ∃ y3 y7, en = [.p (tab n n P), .p (.int (a : Int)), .p (iL S), y3, .p (lrow n (indR [a])), .o (lf i fun b => row S.length (comA P S b)), .o (lf i fun b => fr (comQ P S [a] b)), y7, .u]) S.length (fun i en g' hi ⟨hg, y3, y7, he'⟩ => by
        subst he' hg
        have hp := lt _ (getD_mem hi)
        have xr : ixD g' (tab n n P) (.int ((S.getD i 0 : Nat) : Int)) = some (row n (P (S.getD i 0))) := ix_tf hp
        have xa := ixRow ha (P (S.getD i 0)) g'
        have iS : items .seq [iL S] = some (S.map fun (p : Nat) => D.int (p : Int)) := rfl
        have cp : compD (evF TT (k + 6)) (.call i_minus [.tup [.bi .int [.op .eq (.var 3) (.var 7)], .lit (.int 1)], .ix (.ix (.var 0) (.var 3)) (.var 7)]) (.nm 7) [] [.p (tab n n P), .p (.int (a : Int)), .p (iL S), .p (.int ((S.getD i 0 : Nat) : Int)), .p (lrow n (indR [a])), .o (lf i fun b => row S.length (comA P S b)), .o (lf i fun b => fr (comQ P S [a] b)), y7, .u] g' (some (S.map fun (p : Nat) => D.int (p : Int))) = .ok (.lst (S.map fun p => fr (idN (S.getD i 0) p - P (S.getD i 0) p))) g' :=
          compD_l S (fun (p : Nat) => D.int (p : Int)) (fun p => fr (idN (S.getD i 0) p - P (S.getD i 0) p)) (by omega) fun p hp' => ⟨[.p (tab n n P), .p (.int (a : Int)), .p (iL S), .p (.int ((S.getD i 0 : Nat) : Int)), .p (lrow n (indR [a])), .o (lf i fun b => row S.length (comA P S b)), .o (lf i fun b => fr (comQ P S [a] b)), .p (.int (p : Int)), .u], rfl, by
            have xt := ixRow (lt p hp') (P (S.getD i 0)) g'
            have ib := int_bl (decide (((S.getD i 0 : Nat) : Int) = (p : Int)))
            have df := idN_fr (S.getD i 0) p _ ib
            have mi := ev_minus (k + 3) (idN (S.getD i 0) p) (P (S.getD i 0) p) g' (idN_sm _ _) (T.sm hp (lt p hp'))
            simp only [evE_call, evE_ix, evE_tup, evE_bi, evE_op, evE_lit, evEs_cons, evEs_nil, evE_var, getS_z, getS_s, slV_p, bind_ok, xr, xt, op_eq_i, of_some, ib, df, mi]⟩
        have tp : bi .tuple [.lst (S.map fun p => fr (idN (S.getD i 0) p - P (S.getD i 0) p))] = some (row S.length (comA P S i)) := by
          show some (D.tup (S.map fun p => fr (idN (S.getD i 0) p - P (S.getD i 0) p))) = _
          rw [← map_getD S fun p => fr (idN (S.getD i 0) p - P (S.getD i 0) p)]; rfl
        have a1 := app_lf (C := evF TT (k + 6)) (env := [.p (tab n n P), .p (.int (a : Int)), .p (iL S), .p (.int ((S.getD i 0 : Nat) : Int)), .p (lrow n (indR [a])), .o (lf i fun b => row S.length (comA P S b)), .o (lf i fun b => fr (comQ P S [a] b)), y7, .u]) (g := g') (i := 5) (n := i) (f := fun b => row S.length (comA P S b)) (e := .bi .tuple [.comp (.call i_minus [.tup [.bi .int [.op .eq (.var 3) (.var 7)], .lit (.int 1)],
    .ix (.ix (.var 0) (.var 3)) (.var 7)]) (.nm 7) .seq [.var 2] []]) (d := row S.length (comA P S i)) rfl (by
            simp only [evE_bi, evE_comp, evEs_cons, evEs_nil, evE_var, getS_z, getS_s, slV_p, bind_ok, iS, cp, tp, of_some]) rfl (by omega)
        have a2 := app_lf (C := evF TT (k + 6)) (env := [.p (tab n n P), .p (.int (a : Int)), .p (iL S), .p (.int ((S.getD i 0 : Nat) : Int)), .p (lrow n (indR [a])), .o (lf (i + 1) fun b => row S.length (comA P S b)), .o (lf i fun b => fr (comQ P S [a] b)), y7, .u]) (g := g') (i := 6) (n := i) (f := fun b => fr (comQ P S [a] b)) (e := .ix (.ix (.var 0) (.var 3)) (.var 1)) (d := fr (P (S.getD i 0) a)) rfl (by
            simp only [evE_ix, evE_var, getS_z, getS_s, slV_p, bind_ok, xr, xa, of_some]) (by rw [comQ1]) (by omega)
        refine ⟨_, rfl, _, g', .inl ?_, rfl, .p (.int ((S.getD i 0 : Nat) : Int)), y7, rfl⟩
        rw [bodyOf_eq, ← hbd]
        simp only [lidFor, setS_z, setS_s, evSs_cons, evSs_nil, a1, thenS_nx, a2]) ⟨rfl, .u, .u, rfl⟩
    subst he' hg
    rw [map_getD S fun (p : Nat) => D.int (p : Int)] at f1
    have sol := ev_solved k S.length S.length 30 (comA P S) (comQ P S [a]) (lf S.length fun b => fr (comQ P S [a] b)) g' hpos (by omega) (by omega) (sq_lf _ _) (by decide) hR
    have sf' : solve S.length (augs S.length S.length (comA P S) (comQ P S [a])) = some f := sf
    rw [sf'] at sol
    have il : (!isLst (D.lst [])) = false := rfl
    have iS : items .seq [iL S] = some (S.map fun (p : Nat) => D.int (p : Int)) := rfl
    have iz : items .zip [iL S, row S.length f] = some (((S.map fun (p : Nat) => D.int (p : Int)).zip ((List.range S.length).map fun c => fr (f c))).map fun p => D.tup [p.1, p.2]) := rfl
    obtain ⟨z3, z8, f2⟩ := lid_put (evF TT (k + 6)) n (by omega) g' (.p (tab n n P)) (.p (.int (a : Int))) (.p (iL S)) (.p (lf S.length fun b => row S.length (comA P S b))) (.p (lf S.length fun b => fr (comQ P S [a] b))) y7 S f (indR [a]) y3 .u lt
    have l0 : (lf 0 fun b => row S.length (comA P S b)) = .lst [] := rfl
    have l1 : (lf 0 fun b => fr (comQ P S [a] b)) = .lst [] := rfl
    rw [l0, l1] at f1
    simp only [solD] at sol
    simp only [evSs_cons, evSs_nil, evS_asg, evS_ite, evS_par, evE_comp, evE_bi, evE_op, evE_lst, evEs_cons, evEs_nil, evE_var, getS_z, getS_s, slV_p, bind_ok, hln, of_some, items_rng (show n ≤ 1000000 by omega), c1, to_ok, setS_z, setS_s, thenS_nx, lr, ilr, c3, en, iteD_bl, Bool.false_eq_true, if_false, parD_ok, setPar_cons, setPar_nil, il, Bool.and_false, Bool.true_and, nxO_some, if_true, evS_for, iS, fork_ok, forD_some, f1, evS_frz, frz_two, frzS_s, frzS_z, fr_o, evE_call, sol, iz, f2, evS_ret, tpR, thenS_ret, outR_ret]
    rfl
end Rz
/-! RzG49 -/
set_option linter.all false
set_option maxRecDepth 100000
set_option exponentiation.threshold 20000
namespace Rz
/-! ### the least lid, by the law -/
theorem T_law_reach : TT i_law_reach = some d_law_reach := rfl
theorem T_law_least : TT i_law_least = some d_law_least := rfl
def rchNew (n : Nat) (B : Nat → Nat → Bool) (F : List Nat) (h : Nat) : List Nat := (List.range n).filter fun j => B h j && !decide (j ∈ F)
def rchStep (n : Nat) (B : Nat → Nat → Bool) (F : List Nat) (h : Nat) : List Nat := F ++ rchNew n B F h
def rchPass (n : Nat) (B : Nat → Nat → Bool) (F : List Nat) : List Nat := F.foldl (rchStep n B) F
def lawR (n : Nat) (B : Nat → Nat → Bool) (p : Nat) : List Nat := rchPass n B (rchPass n B (rchPass n B [p]))
theorem rchNew_lt {n : Nat} {B : Nat → Nat → Bool} {F : List Nat} {h : Nat} : ∀ a ∈ rchNew n B F h, a < n := fun a ha => List.mem_range.mp (List.mem_filter.mp ha).1
theorem rchNew_len (n : Nat) (B : Nat → Nat → Bool) (F : List Nat) (h : Nat) : (rchNew n B F h).length ≤ n := by
  have := List.length_filter_le (fun j => B h j && !decide (j ∈ F)) (List.range n)
  unfold rchNew
  simpa using this
theorem rchFold_ok {n : Nat} {B : Nat → Nat → Bool} : ∀ (l G : List Nat), (∀ a ∈ G, a < n) → (∀ a ∈ l.foldl (rchStep n B) G, a < n) ∧ (l.foldl (rchStep n B) G).length ≤ G.length + n * l.length
  | [], G, h => ⟨h, by simp⟩
  | x :: l, G, h => by
    have hl := rchNew_len n B G x
    obtain ⟨h1, h2⟩ := rchFold_ok (n := n) (B := B) l (rchStep n B G x) fun a ha => by
      rcases List.mem_append.mp ha with ha | ha
      · exact h a ha
      · exact rchNew_lt a ha
    refine ⟨h1, ?_⟩
    have e : (rchStep n B G x).length = G.length + (rchNew n B G x).length := by unfold rchStep; rw [List.length_append]
    rw [e] at h2
    show (l.foldl (rchStep n B) (rchStep n B G x)).length ≤ _
    rw [List.length_cons, Nat.mul_succ]
    omega
theorem rchPass_ok {n : Nat} {B : Nat → Nat → Bool} (hn : n ≤ 3) {G : List Nat} (h : ∀ a ∈ G, a < n) : (∀ a ∈ rchPass n B G, a < n) ∧ (rchPass n B G).length ≤ 4 * G.length := by
  obtain ⟨h1, h2⟩ := rchFold_ok (n := n) (B := B) G G h
  refine ⟨h1, ?_⟩
  have : n * G.length ≤ 3 * G.length := Nat.mul_le_mul_right _ hn
  unfold rchPass
  omega
theorem rchFold_congr {n : Nat} {B C : Nat → Nat → Bool} (e : ∀ i j, i < n → j < n → B i j = C i j) : ∀ (l G : List Nat), (∀ a ∈ l, a < n) → l.foldl (rchStep n B) G = l.foldl (rchStep n C) G
  | [], G, _ => rfl
  | x :: l, G, h => by
    have hx := h x (List.mem_cons_self ..)
    have : rchStep n B G x = rchStep n C G x := by
      unfold rchStep rchNew
      congr 1
      refine List.filter_congr fun j hj => ?_
      rw [e x j hx (List.mem_range.mp hj)]
    show l.foldl (rchStep n B) (rchStep n B G x) = l.foldl (rchStep n C) (rchStep n C G x)
    rw [this]
    exact rchFold_congr e l _ fun a ha => h a (List.mem_cons_of_mem _ ha)
theorem lawR_congr {n : Nat} {B C : Nat → Nat → Bool} (hn : n ≤ 3) (e : ∀ i j, i < n → j < n → B i j = C i j) {p : Nat} (hp : p < n) : lawR n B p = lawR n C p := by
  have h0 : ∀ a ∈ [p], a < n := fun a ha => by rw [List.mem_singleton.mp ha]; exact hp
  have e1 : rchPass n B [p] = rchPass n C [p] := rchFold_congr e _ _ h0
  have h1 := (rchPass_ok (B := C) hn h0).1
  have e2 : rchPass n B (rchPass n C [p]) = rchPass n C (rchPass n C [p]) := rchFold_congr e _ _ h1
  have h2 := (rchPass_ok (B := C) hn h1).1
  unfold lawR
  rw [e1, e2]
  exact rchFold_congr e _ _ h2
def lawT (n : Nat) (B : Nat → Nat → Bool) : Bool := (List.range n).all fun p => (List.range n).all fun a => decide (a ∈ lawR n B p) == decide (a ∈ rchN n B p)
theorem lawT_all : (List.range 4).all (fun n => allPat (lawT n)) = true := by decide +kernel
theorem lawR_ok {n : Nat} {B : Nat → Nat → Bool} (hn : n ≤ 3) (hd : ∀ i, i < n → B i i = true) {p a : Nat} (hp : p < n) (ha : a < n) : a ∈ lawR n B p ↔ a ∈ rchN n B p := by
  have m := mat_of hn hd
  rw [lawR_congr hn m hp, rch_congr m hp]
  have h := allPat_ok (List.all_eq_true.mp lawT_all n (List.mem_range.mpr (by omega))) (B 0 1) (B 0 2) (B 1 0) (B 1 2) (B 2 0) (B 2 1)
  unfold lawT at h
  have h := List.all_eq_true.mp h p (List.mem_range.mpr hp)
  have h := List.all_eq_true.mp h a (List.mem_range.mpr ha)
  exact decide_eq_decide.mp (beq_iff_eq.mp h)
theorem add_iL2 (F G : List Nat) (h : F.length + G.length ≤ 1000000) : op2 .add (iL F) (iL G) = some (iL (F ++ G)) := by
  show op2 .add (.lst _) (.lst _) = _
  rw [op_add_l (by simpa using h), ← List.map_append]; rfl
def reachFor : List St := [.asg 5 (.ix (.var 0) (.var 4)),
    .asg 2 (.op .add (.var 2) (.comp (.var 6) (.nm 6) .rng [.bi .len [.var 5]] [.and_ (.op .ne (.ix (.ix (.var 5) (.var 6)) (.lit (.int 0))) (.lit (.int 0))) (.op .notin (.var 6) (.var 2))]))]
theorem reach_for (C : Nat → List D → Gs → R D) (n : Nat) (hn : n ≤ 3) (P : Nat → Nat → Rat) (g : Gs) (a1 a3 : Sl) : ∀ (l G : List Nat) (y4 y5 : Sl), (∀ h ∈ l, h < n) → (∀ h ∈ G, h < n) → G.length + 3 * l.length ≤ 900 →
    ∃ z4 z5, forL (bodyOf C reachFor) (.nm 4) (l.map fun (p : Nat) => D.int (p : Int)) [.p (tab n n P), a1, .p (iL G), a3, y4, y5, .u] g = .nx [.p (tab n n P), a1, .p (iL (l.foldl (rchStep n (patB P)) G)), a3, z4, z5, .u] g := by
  intro l
  induction l with
  | nil => intro G y4 y5 _ _ _; exact ⟨y4, y5, rfl⟩
  | cons x l ih =>
    intro G y4 y5 hl hG hc
    have hx := hl x (List.mem_cons_self ..)
    rw [List.length_cons] at hc
    have xr : ixD g (tab n n P) (.int (x : Int)) = some (row n (P x)) := ix_tf hx
    have hln : bi .len [row n (P x)] = some (.int (n : Int)) := len_tf _ _
    have cp : compD C (.var 6) (.nm 6) [.and_ (.op .ne (.ix (.ix (.var 5) (.var 6)) (.lit (.int 0))) (.lit (.int 0))) (.op .notin (.var 6) (.var 2))] [.p (tab n n P), a1, .p (iL G), a3, .p (.int (x : Int)), .p (row n (P x)), .u] g (some ((List.range n).map fun (i : Nat) => D.int (i : Int))) = .ok (iL (rchNew n (patB P) G x)) g :=
      compD_f (List.range n) (fun (i : Nat) => D.int (i : Int)) (fun j => patB P x j && !decide (j ∈ G)) (fun (i : Nat) => D.int (i : Int)) (by simp; omega) fun j hj => by
        have hj := List.mem_range.mp hj
        refine ⟨[.p (tab n n P), a1, .p (iL G), a3, .p (.int (x : Int)), .p (row n (P x)), .p (.int (j : Int))], rfl, ?_, fun _ => by simp only [evE_var, getS_z, getS_s, slV_p]⟩
        have xj := ixRow hj (P x) g
        have q : op2 .ne (.int (P x j).num) (.int 0) = some (.bl (patB P x j)) := by
          rw [op_ne_i]
          unfold patB
          simp only [num0]
        have ni := notin_iL G j
        simp only [evE_and, evE_op, evE_ix, evE_lit, evE_var, getS_z, getS_s, slV_p, bind_ok, xj, of_some, ixq0, q, iteD_bl, ni]
        cases patB P x j <;> simp
    have nl := rchNew_len n (patB P) G x
    have ad := add_iL2 G (rchNew n (patB P) G x) (by omega)
    have bd : bodyOf C reachFor [.p (tab n n P), a1, .p (iL G), a3, .p (.int (x : Int)), y5, .u] g = .nx [.p (tab n n P), a1, .p (iL (rchStep n (patB P) G x)), a3, .p (.int (x : Int)), .p (row n (P x)), .u] g := by
      rw [bodyOf_eq]
      simp only [reachFor, evSs_cons, evSs_nil, evS_asg, evE_op, evE_ix, evE_comp, evE_bi, evEs_cons, evEs_nil, evE_var, getS_z, getS_s, slV_p, bind_ok, xr, of_some, to_ok, setS_z, setS_s, thenS_nx, hln, items_rng (show n ≤ 1000000 by omega), cp, ad]
      rfl
    obtain ⟨z4, z5, q⟩ := ih (rchStep n (patB P) G x) (.p (.int (x : Int))) (.p (row n (P x))) (fun h hh => hl h (List.mem_cons_of_mem _ hh)) (fun h hh => by
      rcases List.mem_append.mp hh with hh | hh
      · exact hG h hh
      · exact rchNew_lt h hh) (by
      have e : (rchStep n (patB P) G x).length = G.length + (rchNew n (patB P) G x).length := by unfold rchStep; rw [List.length_append]
      rw [e]; omega)
    refine ⟨z4, z5, ?_⟩
    rw [List.map_cons, forL_nx (b := bodyOf C reachFor) (t := .nm 4) (e1 := [.p (tab n n P), a1, .p (iL G), a3, .p (.int (x : Int)), y5, .u]) rfl bd]
    exact q
theorem ev_law_reach (k n p : Nat) (P : Nat → Nat → Rat) (g : Gs) (hn : n ≤ 3) (hp : p < n) : evF TT (k + 1) i_law_reach [tab n n P, .int (p : Int)] g = .ok (iL (lawR n (patB P) p)) g := by
  rw [evF_s T_law_reach, runF_eq rfl]
  show outR (evSs (evF TT k) b_law_reach [.p (tab n n P), .p (.int (p : Int)), .u, .u, .u, .u, .u] g) = _
  have h0 : ∀ a ∈ [p], a < n := fun a ha => by rw [List.mem_singleton.mp ha]; exact hp
  obtain ⟨h1, l1⟩ := rchPass_ok (B := patB P) hn h0
  obtain ⟨h2, l2⟩ := rchPass_ok (B := patB P) hn h1
  simp only [List.length_singleton] at l1
  generalize hbd : reachFor = body
  have li : ∀ F : List Nat, bi .list [iL F] = some (iL F) := fun F => rfl
  have it : ∀ F : List Nat, items .seq [iL F] = some (F.map fun (p : Nat) => D.int (p : Int)) := fun F => rfl
  have one : ∀ (F : List Nat) (a3 y4 y5 : Sl), (∀ a ∈ F, a < n) → F.length ≤ 100 → ∃ z4 z5, bodyOf (evF TT k) [.for_ (.nm 4) .seq [.bi .list [.var 2]] body] [.p (tab n n P), .p (.int (p : Int)), .p (iL F), a3, y4, y5, .u] g = .nx [.p (tab n n P), .p (.int (p : Int)), .p (iL (rchPass n (patB P) F)), a3, z4, z5, .u] g := fun F a3 y4 y5 hF hl => by
    obtain ⟨z4, z5, q⟩ := reach_for (evF TT k) n hn P g (.p (.int (p : Int))) a3 F F y4 y5 hF hF (by omega)
    rw [hbd] at q
    refine ⟨z4, z5, ?_⟩
    rw [bodyOf_eq]
    simp only [evSs_cons, evSs_nil, evS_for, evEs_cons, evEs_nil, evE_bi, evE_var, getS_z, getS_s, slV_p, bind_ok, li, of_some, fork_ok, it, forD_some, q, thenS_nx]
    rfl
  have hb : b_law_reach = [.asg 2 (.lst [.var 1]), .for_ (.nm 3) .rng [.lit (.int 3)] [.for_ (.nm 4) .seq [.bi .list [.var 2]] body], .ret (.var 2)] := by rw [← hbd]; rfl
  obtain ⟨u4, u5, q1⟩ := one [p] (.p (.int 0)) .u .u h0 (by simp)
  obtain ⟨v4, v5, q2⟩ := one (rchPass n (patB P) [p]) (.p (.int 1)) u4 u5 h1 (by omega)
  obtain ⟨w4, w5, q3⟩ := one (rchPass n (patB P) (rchPass n (patB P) [p])) (.p (.int 2)) v4 v5 h2 (by omega)
  have f : forL (bodyOf (evF TT k) [.for_ (.nm 4) .seq [.bi .list [.var 2]] body]) (.nm 3) [.int 0, .int 1, .int 2] [.p (tab n n P), .p (.int (p : Int)), .p (iL [p]), .u, .u, .u, .u] g = .nx [.p (tab n n P), .p (.int (p : Int)), .p (iL (lawR n (patB P) p)), .p (.int 2), w4, w5, .u] g := by
    rw [forL_nx (e1 := [.p (tab n n P), .p (.int (p : Int)), .p (iL [p]), .p (.int 0), .u, .u, .u]) rfl q1, forL_nx (e1 := [.p (tab n n P), .p (.int (p : Int)), .p (iL (rchPass n (patB P) [p])), .p (.int 1), u4, u5, .u]) rfl q2, forL_nx (e1 := [.p (tab n n P), .p (.int (p : Int)), .p (iL (rchPass n (patB P) (rchPass n (patB P) [p]))), .p (.int 2), v4, v5, .u]) rfl q3]
    rfl
  have r3 : items .rng [.int 3] = some [.int 0, .int 1, .int 2] := rfl
  have e1 : D.lst [.int (p : Int)] = iL [p] := rfl
  rw [hb]
  simp only [evSs_cons, evSs_nil, evS_asg, evS_for, evE_lst, evEs_cons, evEs_nil, evE_var, evE_lit, getS_z, getS_s, slV_p, bind_ok, to_ok, setS_z, setS_s, thenS_nx, e1, fork_ok, r3, forD_some, f, evS_ret, thenS_ret, outR_ret]
def lidSet : List St := [.setx 4 (.var 3) (.var 8)]
theorem lid_set (C : Nat → List D → Gs → R D) (n : Nat) (g : Gs) (a0 a1 a2 a5 a6 a7 : Sl) : ∀ (l : List Nat) (f : Nat → Rat) (x : Vc) (y3 y8 : Sl), (∀ p ∈ l, p < n) →
    ∃ z3 z8, forL (bodyOf C lidSet) (.tp [.nm 3, .nm 8]) (((l.map fun (p : Nat) => D.int (p : Int)).zip ((List.range l.length).map fun c => fr (f c))).map fun p => D.tup [p.1, p.2]) [a0, a1, a2, y3, .o (lrow n x), a5, a6, a7, y8] g
      = .nx [a0, a1, a2, z3, .o (lrow n (putN l f x)), a5, a6, a7, z8] g := by
  intro l
  induction l with
  | nil => intro f x y3 y8 _; exact ⟨y3, y8, rfl⟩
  | cons p l ih =>
    intro f x y3 y8 h
    have e : (List.range (p :: l).length).map (fun c => fr (f c)) = fr (f 0) :: (List.range l.length).map fun c => fr (f (c + 1)) := by
      rw [List.length_cons, List.range_succ_eq_map, List.map_cons, List.map_map]; rfl
    rw [e, List.map_cons, List.zip_cons_cons, List.map_cons]
    have st := setx_lr (C := C) (env := [a0, a1, a2, .p (.int (p : Int)), .o (lrow n x), a5, a6, a7, .p (fr (f 0))]) (g := g) (i := 4) (n := n) (a := p) (j := .var 3) (e := .var 8) (v := f 0) (x := x) (by simp only [evE_var, getS_z, getS_s, slV_p]) rfl (by simp only [evE_var, getS_z, getS_s, slV_p]) (h p (List.mem_cons_self ..))
    have bd : bodyOf C lidSet [a0, a1, a2, .p (.int (p : Int)), .o (lrow n x), a5, a6, a7, .p (fr (f 0))] g = .nx [a0, a1, a2, .p (.int (p : Int)), .o (lrow n (up x p (f 0))), a5, a6, a7, .p (fr (f 0))] g := by
      rw [bodyOf_eq]
      simp only [lidSet, evSs_cons, evSs_nil, st, setS_z, setS_s, thenS_nx]
      rfl
    obtain ⟨z3, z8, q⟩ := ih (fun c => f (c + 1)) (up x p (f 0)) (.p (.int (p : Int))) (.p (fr (f 0))) fun q hq => h q (List.mem_cons_of_mem _ hq)
    refine ⟨z3, z8, ?_⟩
    rw [forL_nx (b := bodyOf C lidSet) (t := .tp [.nm 3, .nm 8]) (env := [a0, a1, a2, y3, .o (lrow n x), a5, a6, a7, y8]) (e1 := [a0, a1, a2, .p (.int (p : Int)), .o (lrow n x), a5, a6, a7, .p (fr (f 0))]) rfl bd]
    exact q
theorem lawlid_hop (k n a : Nat) (P : Nat → Nat → Rat) (g : Gs) (T : Tbl n P) (ha : a < n) (y2 y3 y4 y5 y6 y7 y8 : Sl) : compD (evF TT (k + 1)) (.var 3) (.nm 3) [.and_ (.op .ne (.var 3) (.var 1)) (.op .isin (.var 1) (.call i_law_reach [.var 0, .var 3]))] [.p (tab n n P), .p (.int (a : Int)), y2, y3, y4, y5, y6, y7, y8] g (some ((List.range n).map fun (i : Nat) => D.int (i : Int))) = .ok (iL (someN n (patB P) [a])) g := by
  rw [← lid_list n (patB P) a (lawR n (patB P)) fun i hi => lawR_ok T.n3 T.diag hi ha]
  refine compD_f (List.range n) (fun (i : Nat) => D.int (i : Int)) (fun i => !decide (i = a) && decide (a ∈ lawR n (patB P) i)) (fun (i : Nat) => D.int (i : Int)) (by have := T.n3; simp; omega) fun i hi => ?_
  have hi := List.mem_range.mp hi
  refine ⟨[.p (tab n n P), .p (.int (a : Int)), y2, .p (.int (i : Int)), y4, y5, y6, y7, y8], rfl, ?_, fun _ => by simp only [evE_var, getS_z, getS_s, slV_p]⟩
  have pf := ev_law_reach k n i P g T.n3 hi
  have ii := in_iL (lawR n (patB P) i) a
  have ne : op2 .ne (.int (i : Int)) (.int (a : Int)) = some (.bl (!decide (i = a))) := by
    rw [op_ne_i]
    congr 3
    exact decide_eq_decide.mpr (by omega)
  simp only [evE_and, evE_op, evE_call, evEs_cons, evEs_nil, evE_var, getS_z, getS_s, slV_p, bind_ok, ne, of_some, iteD_bl, pf, ii]
  cases decide (i = a) <;> simp
theorem lawlid_ind (k n a : Nat) (P : Nat → Nat → Rat) (g : Gs) (n3 : n ≤ 3) (y2 y3 y4 y5 y6 y7 y8 : Sl) : compD (evF TT k) (.tup [.bi .int [.op .eq (.var 3) (.var 1)], .lit (.int 1)]) (.nm 3) [] [.p (tab n n P), .p (.int (a : Int)), y2, y3, y4, y5, y6, y7, y8] g (some ((List.range n).map fun (i : Nat) => D.int (i : Int))) = .ok (lrow n (indR [a])) g :=
  compD_n (fun i => fr (indR [a] i)) (by omega) fun i hi => ⟨[.p (tab n n P), .p (.int (a : Int)), y2, .p (.int (i : Int)), y4, y5, y6, y7, y8], rfl, by
    have ib := int_bl (decide ((i : Int) = (a : Int)))
    have df := idN_fr i a _ ib
    have e : idN i a = indR [a] i := by
      unfold idN indR
      by_cases c : i = a <;> simp [c]
    rw [e] at df
    simp only [evE_tup, evE_bi, evE_op, evE_lit, evEs_cons, evEs_nil, evE_var, getS_z, getS_s, slV_p, bind_ok, op_eq_i, of_some, ib, df]⟩
def lawlidFor : List St := [.app 5 (.comp (.call i_law_sub [.tup [.bi .int [.op .eq (.var 3) (.var 7)], .lit (.int 1)],
    .ix (.ix (.var 0) (.var 3)) (.var 7)]) (.nm 7) .seq [.var 2] [])]
theorem ev_law_least (k n a : Nat) (P : Nat → Nat → Rat) (g : Gs) (T : Tm n P) (ha : a < n) : evF TT (k + 6) i_law_least [tab n n P, .int (a : Int)] g = .ok (row n (lidV n P a)) g := by
  rw [evF_s T_law_least, runF_eq rfl]
  show outR (evSs (evF TT (k + 5)) b_law_least [.p (tab n n P), .p (.int (a : Int)), .u, .u, .u, .u, .u, .u, .u] g) = _
  have n3 := T.t.n3
  have hln : bi .len [tab n n P] = some (.int (n : Int)) := len_tf _ _
  have c1 := lawlid_hop (k + 4) n a P g T.t ha .u .u .u .u .u .u .u
  have c3 := fun y2 => lawlid_ind (k + 5) n a P g n3 y2 .u .u .u .u .u .u
  obtain ⟨f, sf⟩ := come_some (R := [a]) T.t
  have cv : lidV n P a = comH [a] (someN n (patB P) [a]) f := by unfold lidV comV; rw [sf]
  have nd := nd_some n (patB P) [a]
  have lt : ∀ p ∈ someN n (patB P) [a], p < n := fun p hp => (mem_some.mp hp).1
  have sl := lid_some_len (P := P) ha
  rw [cv]
  generalize someN n (patB P) [a] = S at *
  have hR := lid_row_rb T ha lt
  have en := eq_iL_nil S
  generalize hbd : lawlidFor = body
  generalize hb2 : lidSet = body2
  have hb : b_law_least = [.asg 2 (.comp (.var 3) (.nm 3) .rng [.bi .len [.var 0]] [.and_ (.op .ne (.var 3) (.var 1)) (.op .isin (.var 1) (.call i_law_reach [.var 0, .var 3]))]),
    .own 4 (.comp (.tup [.bi .int [.op .eq (.var 3) (.var 1)], .lit (.int 1)]) (.nm 3) .rng [.bi .len [.var 0]] []), .ite (.op .eq (.var 2) (.lst [])) [.frz [4],
    .ret (.bi .tuple [.var 4])] [], .par [(true, 5), (false, 6)] [.lst [], .comp (.ix (.ix (.var 0) (.var 3)) (.var 1)) (.nm 3) .seq [.var 2] []],
    .for_ (.nm 3) .seq [.var 2] body, .frz [5], .for_ (.tp [(.nm 3), (.nm 8)]) .zip [.var 2, .call i_law_solved [.var 5,
    .var 6]] body2, .frz [4], .ret (.bi .tuple [.var 4])] := by rw [← hbd, ← hb2]; rfl
  rw [hb]
  have tpR : ∀ x : Vc, bi .tuple [lrow n x] = some (row n x) := fun x => tuple_lf _ _
  have isl : ∀ x : Vc, isLst (lrow n x) = true := fun x => rfl
  cases S with
  | nil =>
    simp only [List.isEmpty_nil] at en
    have e : comH [a] [] f = indR [a] := rfl
    rw [e]
    simp only [evSs_cons, evSs_nil, evS_asg, evS_own, evS_ite, evE_comp, evE_bi, evE_op, evE_lst, evEs_cons, evEs_nil, evE_var, getS_z, getS_s, slV_p, bind_ok, hln, of_some, items_rng (show n ≤ 1000000 by omega), c1, to_ok, setS_z, setS_s, thenS_nx, c3, isl, if_true, en, iteD_bl, evS_frz, frz_one, frzS_s, frzS_z, fr_o, evS_ret, tpR, thenS_ret, outR_ret]
  | cons s0 S0 =>
    simp only [List.isEmpty_cons] at en
    generalize hS : s0 :: S0 = S at *
    have hpos : 0 < S.length := by rw [← hS]; simp
    have iS : items .seq [iL S] = some (S.map fun (p : Nat) => D.int (p : Int)) := rfl
    have cq : compD (evF TT (k + 5)) (.ix (.ix (.var 0) (.var 3)) (.var 1)) (.nm 3) [] [.p (tab n n P), .p (.int (a : Int)), .p (iL S), .u, .o (lrow n (indR [a])), .u, .u, .u, .u] g (some (S.map fun (p : Nat) => D.int (p : Int))) = .ok (.lst (S.map fun p => fr (P p a))) g :=
      compD_l S (fun (p : Nat) => D.int (p : Int)) (fun p => fr (P p a)) (by omega) fun p hp => ⟨[.p (tab n n P), .p (.int (a : Int)), .p (iL S), .p (.int (p : Int)), .o (lrow n (indR [a])), .u, .u, .u, .u], rfl, by
        have xr : ixD g (tab n n P) (.int (p : Int)) = some (row n (P p)) := ix_tf (lt p hp)
        have xa := ixRow ha (P p) g
        simp only [evE_ix, evE_var, getS_z, getS_s, slV_p, bind_ok, xr, xa, of_some]⟩
    have eq : D.lst (S.map fun p => fr (P p a)) = lf S.length fun b => fr (comQ P S [a] b) := by
      unfold lf
      simp only [comQ1]
      rw [map_getD S fun p => fr (P p a)]
    rw [eq] at cq
    generalize hq : (lf S.length fun b => fr (comQ P S [a] b)) = Q at cq
    obtain ⟨env', g', f1, hg, y3, he'⟩ := forL_n (t := .nm 3) (f := fun (b : Nat) => D.int ((S.getD b 0 : Nat) : Int)) (b := bodyOf (evF TT (k + 5)) body) (env := [.p (tab n n P), .p (.int (a : Int)), .p (iL S), .u, .o (lrow n (indR [a])), .o (lf 0 fun b => lrow S.length (comA P S b)), .p Q, .u, .u]) (g := g)
      (fun i en g' => g' = g ∧ ∃ y3, en = [.p (tab n n P), .p (.int (a : Int)), .p (iL S), y3, .o (lrow n (indR [a])), .o (lf i fun b => lrow S.length (comA P S b)), .p Q, .u, .u]) S.length (fun i en g' hi ⟨hg, y3, he'⟩ => by
        subst he' hg
        have hp := lt _ (getD_mem hi)
        have xr : ixD g' (tab n n P) (.int ((S.getD i 0 : Nat) : Int)) = some (row n (P (S.getD i 0))) := ix_tf hp
        have cp : compD (evF TT (k + 5)) (.call i_law_sub [.tup [.bi .int [.op .eq (.var 3) (.var 7)], .lit (.int 1)], .ix (.ix (.var 0) (.var 3)) (.var 7)]) (.nm 7) [] [.p (tab n n P), .p (.int (a : Int)), .p (iL S), .p (.int ((S.getD i 0 : Nat) : Int)), .o (lrow n (indR [a])), .o (lf i fun b => lrow S.length (comA P S b)), .p Q, .u, .u] g' (some (S.map fun (p : Nat) => D.int (p : Int))) = .ok (.lst (S.map fun p => fr (idN (S.getD i 0) p - P (S.getD i 0) p))) g' :=
          compD_l S (fun (p : Nat) => D.int (p : Int)) (fun p => fr (idN (S.getD i 0) p - P (S.getD i 0) p)) (by omega) fun p hp' => ⟨[.p (tab n n P), .p (.int (a : Int)), .p (iL S), .p (.int ((S.getD i 0 : Nat) : Int)), .o (lrow n (indR [a])), .o (lf i fun b => lrow S.length (comA P S b)), .p Q, .p (.int (p : Int)), .u], rfl, by
            have xt := ixRow (lt p hp') (P (S.getD i 0)) g'
            have ib := int_bl (decide (((S.getD i 0 : Nat) : Int) = (p : Int)))
            have df := idN_fr (S.getD i 0) p _ ib
            have mi := ev_law_sub (k + 3) (idN (S.getD i 0) p) (P (S.getD i 0) p) g' (idN_sm _ _) (T.sm hp (lt p hp'))
            simp only [evE_call, evE_ix, evE_tup, evE_bi, evE_op, evE_lit, evEs_cons, evEs_nil, evE_var, getS_z, getS_s, slV_p, bind_ok, xr, xt, op_eq_i, of_some, ib, df, mi]⟩
        have tp : D.lst (S.map fun p => fr (idN (S.getD i 0) p - P (S.getD i 0) p)) = lrow S.length (comA P S i) := by
          rw [← map_getD S fun p => fr (idN (S.getD i 0) p - P (S.getD i 0) p)]; rfl
        rw [tp] at cp
        have a1 := app_lf (C := evF TT (k + 5)) (env := [.p (tab n n P), .p (.int (a : Int)), .p (iL S), .p (.int ((S.getD i 0 : Nat) : Int)), .o (lrow n (indR [a])), .o (lf i fun b => lrow S.length (comA P S b)), .p Q, .u, .u]) (g := g') (i := 5) (n := i) (f := fun b => lrow S.length (comA P S b)) (e := .comp (.call i_law_sub [.tup [.bi .int [.op .eq (.var 3) (.var 7)], .lit (.int 1)],
    .ix (.ix (.var 0) (.var 3)) (.var 7)]) (.nm 7) .seq [.var 2] []) (d := lrow S.length (comA P S i)) rfl (by
            simp only [evE_comp, evEs_cons, evEs_nil, evE_var, getS_z, getS_s, slV_p, bind_ok, iS, cp]) rfl (by omega)
        refine ⟨_, rfl, _, g', .inl ?_, rfl, .p (.int ((S.getD i 0 : Nat) : Int)), rfl⟩
        rw [bodyOf_eq, ← hbd]
        simp only [lawlidFor, setS_z, setS_s, evSs_cons, evSs_nil, a1, thenS_nx]) ⟨rfl, .u, rfl⟩
    subst he' hg
    rw [map_getD S fun (p : Nat) => D.int (p : Int)] at f1
    have sol := ev_law_solved k S.length S.length 30 (comA P S) (comQ P S [a]) Q g' hpos (by omega) (by omega) (by rw [← hq]; exact sq_lf _ _) (by decide) hR
    have sf' : solve S.length (augs S.length S.length (comA P S) (comQ P S [a])) = some f := sf
    rw [sf'] at sol
    have il : (!isLst (D.lst [])) = false := rfl
    have iz : items .zip [iL S, lrow S.length f] = some (((S.map fun (p : Nat) => D.int (p : Int)).zip ((List.range S.length).map fun c => fr (f c))).map fun p => D.tup [p.1, p.2]) := rfl
    obtain ⟨z3, z8, f2⟩ := lid_set (evF TT (k + 5)) n g' (.p (tab n n P)) (.p (.int (a : Int))) (.p (iL S)) (.p (lf S.length fun b => lrow S.length (comA P S b))) (.p Q) .u S f (indR [a]) y3 .u lt
    rw [hb2] at f2
    have l0 : (lf 0 fun b => lrow S.length (comA P S b)) = .lst [] := rfl
    rw [l0] at f1
    simp only [solL] at sol
    simp only [evSs_cons, evSs_nil, evS_asg, evS_own, evS_ite, evS_par, evE_comp, evE_bi, evE_op, evE_lst, evEs_cons, evEs_nil, evE_var, getS_z, getS_s, slV_p, bind_ok, hln, of_some, items_rng (show n ≤ 1000000 by omega), c1, to_ok, setS_z, setS_s, thenS_nx, c3, isl, en, iteD_bl, Bool.false_eq_true, if_false, iS, cq, parD_ok, setPar_cons, setPar_nil, il, Bool.and_false, Bool.false_and, Bool.true_and, nxO_some, if_true, evS_for, fork_ok, forD_some, f1, evS_frz, frz_one, frzS_s, frzS_z, fr_o, evE_call, sol, iz, f2, evS_ret, tpR, thenS_ret, outR_ret]
    rfl
end Rz
/-! RzG50 -/
set_option linter.all false
set_option maxRecDepth 100000
set_option exponentiation.threshold 20000
namespace Rz
/-! ### all choices of rows -/
theorem T_chosen : TT i_chosen = some d_chosen := rfl
theorem T_greater : TT i_greater = some d_greater := rfl
theorem T_law_common : TT i_law_common = some d_law_common := rfl
def chT (n k : Nat) (P Q : Nat → Nat → Rat) (p : Nat → Bool) : D := tf k fun i => row n (mixP P Q p i)
def chsD (n k : Nat) (P Q : Nat → Nat → Rat) (l : List (Nat → Bool)) : D := .lst (l.map (chT n k P Q))
theorem chT_add (n k : Nat) (P Q : Nat → Nat → Rat) (p : Nat → Bool) (b : Bool) (hk : k ≤ 900) : op2 .add (chT n k P Q p) (.tup [row n (if b = true then Q k else P k)]) = some (chT n (k + 1) P Q (up p k b)) := by
  unfold chT tf
  rw [op_add_t (by simp; omega), List.range_succ, List.map_append]
  congr 3
  · apply List.map_congr_left
    intro j hj
    have : j ≠ k := by have := List.mem_range.mp hj; omega
    rw [mix_row (p := p) (q := up p k b) (by simp [up, this])]
  · have : mixP P Q (up p k b) k = if b = true then Q k else P k := mix_row (q := fun _ => b) (by simp [up])
    simp [this]
theorem pol_le {k : Nat} (h : k ≤ 3) : (polN k).length ≤ 8 := by
  rw [pol_len]
  have : k = 0 ∨ k = 1 ∨ k = 2 ∨ k = 3 := by omega
  rcases this with rfl | rfl | rfl | rfl <;> decide
theorem chsD_add (n k : Nat) (P Q : Nat → Nat → Rat) (hk : k ≤ 3) : op2 .add (chsD n (k + 1) P Q ((polN k).map fun p => up p k false)) (chsD n (k + 1) P Q ((polN k).map fun p => up p k true)) = some (chsD n (k + 1) P Q (polN (k + 1))) := by
  have := pol_le hk
  unfold chsD
  rw [op_add_l (by simp; omega), ← List.map_append]; rfl
def chBody : List St := [.asg 2 (.op .add (.comp (.op .add (.var 5) (.tup [.var 3])) (.nm 5) .seq [.var 2] []) (.comp (.op .add (.var 5) (.tup [.var 4])) (.nm 5) .seq [.var 2] []))]
theorem ev_chosen (k n : Nat) (P Q : Nat → Nat → Rat) (g : Gs) (hn : n ≤ 3) : evF TT (k + 1) i_chosen [tab n n P, tab n n Q] g = .ok (chsD n n P Q (polN n)) g := by
  rw [evF_s T_chosen, runF_eq rfl]
  show outR (evSs (evF TT k) b_chosen [.p (tab n n P), .p (tab n n Q), .u, .u, .u, .u] g) = _
  generalize hbd : chBody = body
  obtain ⟨env', g', f1, hg, y3, y4, he⟩ := forL_n (t := .tp [(.nm 3), (.nm 4)]) (f := fun i => D.tup [row n (P i), row n (Q i)]) (b := bodyOf (evF TT k) body) (env := [.p (tab n n P), .p (tab n n Q), .p (chsD n 0 P Q (polN 0)), .u, .u, .u]) (g := g)
    (fun i en g' => g' = g ∧ ∃ y3 y4, en = [.p (tab n n P), .p (tab n n Q), .p (chsD n i P Q (polN i)), y3, y4, .u]) n (fun i en g' hi ⟨hg, y3, y4, he⟩ => by
      subst he hg
      have pl := pol_le (k := i) (by omega)
      have is : items .seq [chsD n i P Q (polN i)] = some ((polN i).map (chT n i P Q)) := rfl
      have c1 : compD (evF TT k) (.op .add (.var 5) (.tup [.var 3])) (.nm 5) [] [.p (tab n n P), .p (tab n n Q), .p (chsD n i P Q (polN i)), .p (row n (P i)), .p (row n (Q i)), .u] g' (some ((polN i).map (chT n i P Q))) = .ok (.lst ((polN i).map fun p => chT n (i + 1) P Q (up p i false))) g' :=
        compD_l (polN i) (chT n i P Q) (fun p => chT n (i + 1) P Q (up p i false)) (by omega) fun p _ => ⟨[.p (tab n n P), .p (tab n n Q), .p (chsD n i P Q (polN i)), .p (row n (P i)), .p (row n (Q i)), .p (chT n i P Q p)], rfl, by
          have := chT_add n i P Q p false (by omega)
          simp only [Bool.false_eq_true, if_false] at this
          simp only [evE_op, evE_tup, evEs_cons, evEs_nil, evE_var, getS_z, getS_s, slV_p, bind_ok, this, of_some]⟩
      have c2 : compD (evF TT k) (.op .add (.var 5) (.tup [.var 4])) (.nm 5) [] [.p (tab n n P), .p (tab n n Q), .p (chsD n i P Q (polN i)), .p (row n (P i)), .p (row n (Q i)), .u] g' (some ((polN i).map (chT n i P Q))) = .ok (.lst ((polN i).map fun p => chT n (i + 1) P Q (up p i true))) g' :=
        compD_l (polN i) (chT n i P Q) (fun p => chT n (i + 1) P Q (up p i true)) (by omega) fun p _ => ⟨[.p (tab n n P), .p (tab n n Q), .p (chsD n i P Q (polN i)), .p (row n (P i)), .p (row n (Q i)), .p (chT n i P Q p)], rfl, by
          have := chT_add n i P Q p true (by omega)
          simp only [if_true] at this
          simp only [evE_op, evE_tup, evEs_cons, evEs_nil, evE_var, getS_z, getS_s, slV_p, bind_ok, this, of_some]⟩
      have ad := chsD_add n i P Q (by omega)
      have e1 : D.lst ((polN i).map fun p => chT n (i + 1) P Q (up p i false)) = chsD n (i + 1) P Q ((polN i).map fun p => up p i false) := by unfold chsD; rw [List.map_map]; rfl
      have e2 : D.lst ((polN i).map fun p => chT n (i + 1) P Q (up p i true)) = chsD n (i + 1) P Q ((polN i).map fun p => up p i true) := by unfold chsD; rw [List.map_map]; rfl
      rw [e1] at c1
      rw [e2] at c2
      refine ⟨_, rfl, _, g', .inl ?_, rfl, .p (row n (P i)), .p (row n (Q i)), rfl⟩
      rw [bodyOf_eq, ← hbd]
      simp only [chBody, setS_z, setS_s, evSs_cons, evSs_nil, evS_asg, evE_op, evE_comp, evEs_cons, evEs_nil, evE_var, getS_z, getS_s, slV_p, bind_ok, is, c1, c2, ad, of_some, to_ok, thenS_nx]) ⟨rfl, .u, .u, rfl⟩
  subst he hg
  have iz : items .zip [tab n n P, tab n n Q] = some ((List.range n).map fun i => D.tup [row n (P i), row n (Q i)]) := items_zip (sq_tf _ _) (sq_tf _ _)
  have e0 : D.lst [.tup []] = chsD n 0 P Q (polN 0) := rfl
  have hb : b_chosen = [.asg 2 (.lst [.tup []]), .for_ (.tp [(.nm 3), (.nm 4)]) .zip [.var 0, .var 1] body, .ret (.var 2)] := by rw [← hbd]; rfl
  rw [hb]
  simp only [evSs_cons, evSs_nil, evS_asg, evS_for, evE_lst, evE_tup, evEs_cons, evEs_nil, evE_var, getS_z, getS_s, slV_p, bind_ok, to_ok, setS_z, setS_s, thenS_nx, e0, fork_ok, iz, forD_some, f1, evS_ret, thenS_ret, outR_ret]
def mxR (x y : Vc) : Vc := fun i => if x i < y i then y i else x i
theorem mx_comp (C : Nat → List D → Gs → R D) (f : Nat) (n : Nat) (x y : Vc) (g : Gs) (e : Ex) (t : Tg) (env : Env) (hn : n ≤ 1000) (h : ∀ i, i < n → ∃ e1, bindT t (.tup [fr (x i), fr (y i)]) (wipeS t.ix env) = some e1 ∧ evE C e e1 g = .ok (fr (mxR x y i)) g) :
    compD C e t [] env g (some ((List.range n).map fun i => D.tup [fr (x i), fr (y i)])) = .ok (lrow n (mxR x y)) g := compD_n (fun i => fr (mxR x y i)) (by omega) h
theorem ev_greater (k n : Nat) (x y : Vc) (g : Gs) (hn : n ≤ 1000) (hx : ∀ i, i < n → Sm (x i)) (hy : ∀ i, i < n → Sm (y i)) : evF TT (k + 2) i_greater [row n x, row n y] g = .ok (row n (mxR x y)) g := by
  rw [evF_s T_greater, runF_eq rfl]
  show outR (evSs (evF TT (k + 1)) b_greater [.p (row n x), .p (row n y), .u, .u] g) = _
  have iz : items .zip [row n x, row n y] = some ((List.range n).map fun i => D.tup [fr (x i), fr (y i)]) := items_zip (sq_tf _ _) (sq_tf _ _)
  have c : compD (evF TT (k + 1)) (.ite (.call i_is_less [.var 2, .var 3]) (.var 3) (.var 2)) (.tp [(.nm 2), (.nm 3)]) [] [.p (row n x), .p (row n y), .u, .u] g (some ((List.range n).map fun i => D.tup [fr (x i), fr (y i)])) = .ok (lrow n (mxR x y)) g :=
    mx_comp _ 0 n x y g _ _ _ hn fun i hi => ⟨[.p (row n x), .p (row n y), .p (fr (x i)), .p (fr (y i))], rfl, by
      have l := ev_is_less k (x i) (y i) g (hx i hi) (hy i hi)
      by_cases h : x i < y i
      · rw [decide_eq_true h] at l
        have e : mxR x y i = y i := if_pos h
        rw [e]
        simp only [evE_ite, evE_call, evEs_cons, evEs_nil, evE_var, getS_z, getS_s, slV_p, bind_ok, l, iteD_bl, if_true]
      · rw [decide_eq_false h] at l
        have e : mxR x y i = x i := if_neg h
        rw [e]
        simp only [evE_ite, evE_call, evEs_cons, evEs_nil, evE_var, getS_z, getS_s, slV_p, bind_ok, l, iteD_bl, Bool.false_eq_true, if_false]⟩
  have tp : bi .tuple [lrow n (mxR x y)] = some (row n (mxR x y)) := tuple_lf _ _
  simp only [b_greater, evSs_cons, evSs_nil, evS_ret, evE_bi, evE_comp, evEs_cons, evEs_nil, evE_var, getS_z, getS_s, slV_p, bind_ok, iz, c, tp, of_some, to_ok, thenS_ret, outR_ret]
theorem lidM_snoc (n : Nat) (P Q : Nat → Nat → Rat) (a : Nat) (l : List (Nat → Bool)) (p : Nat → Bool) : lidM n P Q a (l ++ [p]) = mxR (lidM n P Q a l) (lidV n (mixP P Q p) a) := by
  funext i
  unfold lidM mxl mxR
  rw [List.map_append, List.foldl_append]; rfl
theorem lidM_sm {n a : Nat} {P Q : Nat → Nat → Rat} (TP : Tm n P) (TQ : Tm n Q) (ha : a < n) (l : List (Nat → Bool)) {i : Nat} (hi : i < n) : Sm (lidM n P Q a l i) := by
  rcases mxl_mem (l.map fun p => lidV n (mixP P Q p) a i) 0 with h | h
  · show Sm (mxl 0 _)
    rw [h]; exact sm_zero
  · show Sm (mxl 0 _)
    obtain ⟨p, _, e⟩ := List.mem_map.mp h
    rw [← e]
    exact (lid_rb (tm_mix TP TQ p) ha).sm (by decide) hi
/-- the greatest of all, by the law -/
def lawCh : List St := [.asg 3 (.op .add (.comp (.op .add (.var 6) (.tup [.var 4])) (.nm 6) .seq [.var 3] []) (.comp (.op .add (.var 6) (.tup [.var 5])) (.nm 6) .seq [.var 3] []))]
def lawMx : List St := [.asg 8 (.call i_law_least [.var 6, .var 2]),
    .asg 7 (.comp (.ite (.call i_law_less [.var 4, .var 5]) (.var 5) (.var 4)) (.tp [(.nm 4), (.nm 5)]) .zip [.var 7, .var 8] [])]
theorem ev_law_common (k n a : Nat) (P Q : Nat → Nat → Rat) (g : Gs) (TP : Tm n P) (TQ : Tm n Q) (ha : a < n) : evF TT (k + 7) i_law_common [tab n n P, tab n n Q, .int (a : Int)] g = .ok (row n (lidM n P Q a (polN n))) g := by
  rw [evF_s T_law_common, runF_eq rfl]
  show outR (evSs (evF TT (k + 6)) b_law_common [.p (tab n n P), .p (tab n n Q), .p (.int (a : Int)), .u, .u, .u, .u, .u, .u] g) = _
  have n3 := TP.t.n3
  generalize hbd : lawCh = body
  obtain ⟨env', g', f1, hg, y4, y5, he⟩ := forL_n (t := .tp [(.nm 4), (.nm 5)]) (f := fun i => D.tup [row n (P i), row n (Q i)]) (b := bodyOf (evF TT (k + 6)) body) (env := [.p (tab n n P), .p (tab n n Q), .p (.int (a : Int)), .p (chsD n 0 P Q (polN 0)), .u, .u, .u, .u, .u]) (g := g)
    (fun i en g' => g' = g ∧ ∃ y4 y5, en = [.p (tab n n P), .p (tab n n Q), .p (.int (a : Int)), .p (chsD n i P Q (polN i)), y4, y5, .u, .u, .u]) n (fun i en g' hi ⟨hg, y4, y5, he⟩ => by
      subst he hg
      have pl := pol_le (k := i) (by omega)
      have is : items .seq [chsD n i P Q (polN i)] = some ((polN i).map (chT n i P Q)) := rfl
      have c1 : compD (evF TT (k + 6)) (.op .add (.var 6) (.tup [.var 4])) (.nm 6) [] [.p (tab n n P), .p (tab n n Q), .p (.int (a : Int)), .p (chsD n i P Q (polN i)), .p (row n (P i)), .p (row n (Q i)), .u, .u, .u] g' (some ((polN i).map (chT n i P Q))) = .ok (.lst ((polN i).map fun p => chT n (i + 1) P Q (up p i false))) g' :=
        compD_l (polN i) (chT n i P Q) (fun p => chT n (i + 1) P Q (up p i false)) (by omega) fun p _ => ⟨[.p (tab n n P), .p (tab n n Q), .p (.int (a : Int)), .p (chsD n i P Q (polN i)), .p (row n (P i)), .p (row n (Q i)), .p (chT n i P Q p), .u, .u], rfl, by
          have := chT_add n i P Q p false (by omega)
          simp only [Bool.false_eq_true, if_false] at this
          simp only [evE_op, evE_tup, evEs_cons, evEs_nil, evE_var, getS_z, getS_s, slV_p, bind_ok, this, of_some]⟩
      have c2 : compD (evF TT (k + 6)) (.op .add (.var 6) (.tup [.var 5])) (.nm 6) [] [.p (tab n n P), .p (tab n n Q), .p (.int (a : Int)), .p (chsD n i P Q (polN i)), .p (row n (P i)), .p (row n (Q i)), .u, .u, .u] g' (some ((polN i).map (chT n i P Q))) = .ok (.lst ((polN i).map fun p => chT n (i + 1) P Q (up p i true))) g' :=
        compD_l (polN i) (chT n i P Q) (fun p => chT n (i + 1) P Q (up p i true)) (by omega) fun p _ => ⟨[.p (tab n n P), .p (tab n n Q), .p (.int (a : Int)), .p (chsD n i P Q (polN i)), .p (row n (P i)), .p (row n (Q i)), .p (chT n i P Q p), .u, .u], rfl, by
          have := chT_add n i P Q p true (by omega)
          simp only [if_true] at this
          simp only [evE_op, evE_tup, evEs_cons, evEs_nil, evE_var, getS_z, getS_s, slV_p, bind_ok, this, of_some]⟩
      have ad := chsD_add n i P Q (by omega)
      have e1 : D.lst ((polN i).map fun p => chT n (i + 1) P Q (up p i false)) = chsD n (i + 1) P Q ((polN i).map fun p => up p i false) := by unfold chsD; rw [List.map_map]; rfl
      have e2 : D.lst ((polN i).map fun p => chT n (i + 1) P Q (up p i true)) = chsD n (i + 1) P Q ((polN i).map fun p => up p i true) := by unfold chsD; rw [List.map_map]; rfl
      rw [e1] at c1
      rw [e2] at c2
      refine ⟨_, rfl, _, g', .inl ?_, rfl, .p (row n (P i)), .p (row n (Q i)), rfl⟩
      rw [bodyOf_eq, ← hbd]
      simp only [lawCh, setS_z, setS_s, evSs_cons, evSs_nil, evS_asg, evE_op, evE_comp, evEs_cons, evEs_nil, evE_var, getS_z, getS_s, slV_p, bind_ok, is, c1, c2, ad, of_some, to_ok, thenS_nx]) ⟨rfl, .u, .u, rfl⟩
  subst he hg
  have iz : items .zip [tab n n P, tab n n Q] = some ((List.range n).map fun i => D.tup [row n (P i), row n (Q i)]) := items_zip (sq_tf _ _) (sq_tf _ _)
  have e0 : D.lst [.tup []] = chsD n 0 P Q (polN 0) := rfl
  generalize hb2 : lawMx = body2
  have fm : ∀ (l done : List (Nat → Bool)) (y6 y8 : Sl), ∃ z6 z8, forL (bodyOf (evF TT (k + 6)) body2) (.nm 6) (l.map (chT n n P Q)) [.p (tab n n P), .p (tab n n Q), .p (.int (a : Int)), .p (chsD n n P Q (polN n)), y4, y5, y6, .p (lrow n (lidM n P Q a done)), y8] g' = .nx [.p (tab n n P), .p (tab n n Q), .p (.int (a : Int)), .p (chsD n n P Q (polN n)), y4, y5, z6, .p (lrow n (lidM n P Q a (done ++ l))), z8] g' := by
    intro l
    induction l with
    | nil => intro done y6 y8; exact ⟨y6, y8, by rw [List.append_nil]; rfl⟩
    | cons p l ih =>
      intro done y6 y8
      have ls := ev_law_least k n a (mixP P Q p) g' (tm_mix TP TQ p) ha
      have ls' : evF TT (k + 6) i_law_least [chT n n P Q p, .int (a : Int)] g' = .ok (row n (lidV n (mixP P Q p) a)) g' := ls
      have iz : items .zip [lrow n (lidM n P Q a done), row n (lidV n (mixP P Q p) a)] = some ((List.range n).map fun i => D.tup [fr (lidM n P Q a done i), fr (lidV n (mixP P Q p) a i)]) := items_zip (sq_lf _ _) (sq_tf _ _)
      have c : compD (evF TT (k + 6)) (.ite (.call i_law_less [.var 4, .var 5]) (.var 5) (.var 4)) (.tp [(.nm 4), (.nm 5)]) [] [.p (tab n n P), .p (tab n n Q), .p (.int (a : Int)), .p (chsD n n P Q (polN n)), y4, y5, .p (chT n n P Q p), .p (lrow n (lidM n P Q a done)), .p (row n (lidV n (mixP P Q p) a))] g' (some ((List.range n).map fun i => D.tup [fr (lidM n P Q a done i), fr (lidV n (mixP P Q p) a i)])) = .ok (lrow n (lidM n P Q a (done ++ [p]))) g' := by
        rw [lidM_snoc]
        exact mx_comp _ 0 n _ _ g' _ _ _ (by omega) fun i hi => ⟨[.p (tab n n P), .p (tab n n Q), .p (.int (a : Int)), .p (chsD n n P Q (polN n)), .p (fr (lidM n P Q a done i)), .p (fr (lidV n (mixP P Q p) a i)), .p (chT n n P Q p), .p (lrow n (lidM n P Q a done)), .p (row n (lidV n (mixP P Q p) a))], rfl, by
          have l := ev_law_less (k + 5) _ _ g' (lidM_sm TP TQ ha done hi) ((lid_rb (tm_mix TP TQ p) ha).sm (by decide) hi)
          by_cases h : lidM n P Q a done i < lidV n (mixP P Q p) a i
          · rw [decide_eq_true h] at l
            have e : mxR (lidM n P Q a done) (lidV n (mixP P Q p) a) i = lidV n (mixP P Q p) a i := if_pos h
            rw [e]
            simp only [evE_ite, evE_call, evEs_cons, evEs_nil, evE_var, getS_z, getS_s, slV_p, bind_ok, l, iteD_bl, if_true]
          · rw [decide_eq_false h] at l
            have e : mxR (lidM n P Q a done) (lidV n (mixP P Q p) a) i = lidM n P Q a done i := if_neg h
            rw [e]
            simp only [evE_ite, evE_call, evEs_cons, evEs_nil, evE_var, getS_z, getS_s, slV_p, bind_ok, l, iteD_bl, Bool.false_eq_true, if_false]⟩
      have bd : bodyOf (evF TT (k + 6)) body2 [.p (tab n n P), .p (tab n n Q), .p (.int (a : Int)), .p (chsD n n P Q (polN n)), y4, y5, .p (chT n n P Q p), .p (lrow n (lidM n P Q a done)), y8] g' = .nx [.p (tab n n P), .p (tab n n Q), .p (.int (a : Int)), .p (chsD n n P Q (polN n)), y4, y5, .p (chT n n P Q p), .p (lrow n (lidM n P Q a (done ++ [p]))), .p (row n (lidV n (mixP P Q p) a))] g' := by
        rw [bodyOf_eq, ← hb2]
        simp only [lawMx, evSs_cons, evSs_nil, evS_asg, evE_call, evE_comp, evEs_cons, evEs_nil, evE_var, getS_z, getS_s, slV_p, bind_ok, ls', to_ok, setS_z, setS_s, thenS_nx, iz, c]
      obtain ⟨z6, z8, q⟩ := ih (done ++ [p]) (.p (chT n n P Q p)) (.p (row n (lidV n (mixP P Q p) a)))
      refine ⟨z6, z8, ?_⟩
      rw [List.map_cons, forL_nx (b := bodyOf (evF TT (k + 6)) body2) (t := .nm 6) (e1 := [.p (tab n n P), .p (tab n n Q), .p (.int (a : Int)), .p (chsD n n P Q (polN n)), y4, y5, .p (chT n n P Q p), .p (lrow n (lidM n P Q a done)), y8]) rfl bd, q, List.append_assoc]; rfl
  obtain ⟨z6, z8, f2⟩ := fm (polN n) [] .u .u
  rw [List.nil_append] at f2
  have is : items .seq [chsD n n P Q (polN n)] = some ((polN n).map (chT n n P Q)) := rfl
  have hln : bi .len [tab n n P] = some (.int (n : Int)) := len_tf _ _
  have z := zeros_l n (by omega)
  have ez : (lrow n fun _ => (0 : Rat)) = lrow n (lidM n P Q a []) := rfl
  rw [ez] at z
  have tp : bi .tuple [lrow n (lidM n P Q a (polN n))] = some (row n (lidM n P Q a (polN n))) := tuple_lf _ _
  have hb : b_law_common = [.asg 3 (.lst [.tup []]), .for_ (.tp [(.nm 4), (.nm 5)]) .zip [.var 0, .var 1] body,
    .asg 7 (.op .mul (.lst [.tup [.lit (.int 0), .lit (.int 1)]]) (.bi .len [.var 0])), .for_ (.nm 6) .seq [.var 3] body2, .ret (.bi .tuple [.var 7])] := by rw [← hbd, ← hb2]; rfl
  rw [hb]
  simp only [evSs_cons, evSs_nil, evS_asg, evS_for, evE_lst, evE_tup, evE_op, evE_bi, evE_lit, evEs_cons, evEs_nil, evE_var, getS_z, getS_s, slV_p, bind_ok, to_ok, setS_z, setS_s, thenS_nx, e0, fork_ok, iz, forD_some, f1, hln, of_some, z, is, f2, evS_ret, tp, thenS_ret, outR_ret]
end Rz
/-! RzG51 -/
set_option linter.all false
set_option maxRecDepth 100000
set_option exponentiation.threshold 20000
namespace Rz
/-! ### rules of raise and try -/
section
variable {C : Nat → List D → Gs → R D} {env : Env} {g : Gs}
@[simp] theorem evS_rai0 (c : Nat) : evS C (.rai c []) env g = .exc c .non env g := nr rfl
@[simp] theorem thenS_exc (ss : List St) (c : Nat) (p : D) : thenS C ss (.exc c p env g) = .exc c p env g := nr rfl
@[simp] theorem outR_exc (c : Nat) (p : D) : outR (.exc c p env g) = .exc c p g := nr rfl
@[simp] theorem to_exc (c : Nat) (p : D) (f : D → Gs → SR) : (R.exc c p g).to env f = .exc c p env g := nr rfl
def tryD (C : Nat → List D → Gs → R D) (hs : List (Nat × Option Nat × List St)) : SR → SR
  | .exc c p env g => evH C hs c p env g
  | r => r
@[simp] theorem evS_try (b : List St) (hs : List (Nat × Option Nat × List St)) : evS C (.try_ b hs) env g = tryD C hs (evSs C b env g) := by
  show (match evSs C b env g with | .exc c p env' g' => evH C hs c p env' g' | r => r) = _
  cases evSs C b env g <;> rfl
@[simp] theorem tryD_nx (hs : List (Nat × Option Nat × List St)) : tryD C hs (.nx env g) = .nx env g := nr rfl
@[simp] theorem tryD_exc (hs : List (Nat × Option Nat × List St)) (c : Nat) (p : D) : tryD C hs (.exc c p env g) = evH C hs c p env g := nr rfl
theorem evH_one (c : Nat) (p : D) (ss : List St) : evH C [(c, none, ss)] c p env g = (evSs C ss env g).noX := by
  show (if (c == c || c == 0) = true then (evSs C ss env g).noX else _) = _
  rw [if_pos (by simp)]
@[simp] theorem noX_nx : (SR.nx env g).noX = .nx env g := nr rfl
end
/-! ### lids, by the program -/
theorem T_is_lid_of : TT i_is_lid_of = some d_is_lid_of := rfl
theorem T_need_weights : TT i_need_weights = some d_need_weights := rfl
theorem T_is_lid : TT i_is_lid = some d_is_lid := rfl
theorem T_least_lid : TT i_least_lid = some d_least_lid := rfl
theorem T_most_by : TT i_most_by = some d_most_by := rfl
theorem T_common_lid : TT i_common_lid = some d_common_lid := rfl
def lidB (n : Nat) (P : Nat → Nat → Rat) (a : Nat) (w : Vc) : Bool := !decide (w a < 1) && !((List.range n).any fun i => decide (w i < sumN n fun j => P i j * w j))
theorem lidB_of {n a : Nat} {P : Nat → Nat → Rat} {w : Vc} (h1 : 1 ≤ w a) (h2 : ∀ i, i < n → (sumN n fun j => P i j * w j) ≤ w i) : lidB n P a w = true := by
  unfold lidB
  rw [Bool.and_eq_true]
  refine ⟨by simp; grind, ?_⟩
  rw [Bool.not_eq_true', List.any_eq_false]
  intro i hi
  have := h2 i (List.mem_range.mp hi)
  simp; grind
theorem ev_is_lid_of (k n a e : Nat) (P : Nat → Nat → Rat) (w : Vc) (g : Gs) (T : Tm n P) (ha : a < n) (hw : Rb n e w) (he : e ≤ 6000) : evF TT (k + 6) i_is_lid_of [tab n n P, .int (a : Int), row n w] g = .ok (.bl (lidB n P a w)) g := by
  rw [evF_s T_is_lid_of, runF_eq rfl]
  show outR (evSs (evF TT (k + 5)) b_is_lid_of [.p (tab n n P), .p (.int (a : Int)), .p (row n w), .u, .u] g) = _
  have n3 := T.t.n3
  have sw : ∀ i, i < n → Sm (w i) := fun i hi => hw.sm (by omega) hi
  have xa := ixRow ha w g
  have l1 := ev_is_less (k + 4) (w a) 1 g (sw a ha) sm_one
  rw [fr_one] at l1
  have iz : items .zip [tab n n P, row n w] = some ((List.range n).map fun i => D.tup [row n (P i), fr (w i)]) := items_zip (sq_tf _ _) (sq_tf _ _)
  have c : compD (evF TT (k + 5)) (.call i_is_less [.var 4, .call i_dot [.var 3, .var 2]]) (.tp [(.nm 3), (.nm 4)]) [] [.p (tab n n P), .p (.int (a : Int)), .p (row n w), .u, .u] g (some ((List.range n).map fun i => D.tup [row n (P i), fr (w i)])) = .ok (lf n fun i => .bl (decide (w i < sumN n fun j => P i j * w j))) g :=
    compD_n (fun i => .bl (decide (w i < sumN n fun j => P i j * w j))) (by omega) fun i hi => ⟨[.p (tab n n P), .p (.int (a : Int)), .p (row n w), .p (row n (P i)), .p (fr (w i))], rfl, by
      have sd := rb_smd (T.rb hi) hw (by omega) (by omega)
      have d := ev_dot k n (P i) w (row n (P i)) (row n w) g (by omega) (sq_tf _ _) (sq_tf _ _) sd
      have l := ev_is_less (k + 4) (w i) (sumN n fun j => P i j * w j) g (sw i hi) (sd.ps.sum n (Nat.le_refl n))
      simp only [evE_call, evEs_cons, evEs_nil, evE_var, getS_z, getS_s, slV_p, bind_ok, d, l]⟩
  have an := any_bl (List.range n) fun i => decide (w i < sumN n fun j => P i j * w j)
  have an' : bi .any [lf n fun i => .bl (decide (w i < sumN n fun j => P i j * w j))] = some (.bl ((List.range n).any fun i => decide (w i < sumN n fun j => P i j * w j))) := an
  unfold lidB
  by_cases h : w a < 1
  · rw [decide_eq_true h] at l1 ⊢
    simp only [b_is_lid_of, evSs_cons, evSs_nil, evS_ite, evS_ret, evE_call, evE_ix, evE_glo, evEs_cons, evEs_nil, evE_var, evE_lit, getS_z, getS_s, slV_p, bind_ok, xa, of_some, l1, to_ok, iteD_bl, if_true, thenS_ret, outR_ret]
    rfl
  · rw [decide_eq_false h] at l1 ⊢
    simp only [b_is_lid_of, evSs_cons, evSs_nil, evS_ite, evS_ret, evE_call, evE_ix, evE_glo, evE_not, evE_bi, evE_comp, evEs_cons, evEs_nil, evE_var, evE_lit, getS_z, getS_s, slV_p, bind_ok, xa, of_some, l1, to_ok, iteD_bl, Bool.false_eq_true, if_false, thenS_nx, iz, c, an', notD_bl, thenS_ret, outR_ret]
    simp
theorem ev_need_weights (k n : Nat) (w : Vc) (g : Gs) (hn : n ≤ 1000) (h : ∀ i, i < n → Amt (w i)) : evF TT (k + 6) i_need_weights [.int (n : Int), row n w] g = .ok .non g := by
  rw [evF_s T_need_weights, runF_eq rfl]
  show outR (evSs (evF TT (k + 5)) b_need_weights [.p (.int (n : Int)), .p (row n w)] g) = _
  have d := ev_is_dirt_for k n w g hn h
  simp only [b_need_weights, evSs_cons, evSs_nil, evS_ite, evE_not, evE_call, evEs_cons, evEs_nil, evE_var, getS_z, getS_s, slV_p, bind_ok, d, notD_bl, Bool.not_true, to_ok, iteD_bl, Bool.false_eq_true, if_false, thenS_nx, outR_nx]
theorem ev_is_lid (k n a e : Nat) (V : Ves) (ss : List Stp) (w : Vc) (g : Gs) (h : WayOk n V ss) (ha : a < n) (hw : Rb n e w) (he : e ≤ 6000) (hA : ∀ i, i < n → Amt (w i)) : evF TT (k + 7) i_is_lid [wayD n V ss, .int (a : Int), row n w] g = .ok (.bl (lidB n (Tb V ss) a w)) g := by
  rw [evF_s T_is_lid, runF_eq rfl]
  show outR (evSs (evF TT (k + 6)) b_is_lid [.p (wayD n V ss), .p (.int (a : Int)), .p (row n w)] g) = _
  have n3 := h.n3
  have nw := ev_need_way (k + 1) n V ss g h
  have nv := ev_need_vessel (k + 3) n a g ha
  have nW := ev_need_weights k n w g (by omega) hA
  have tb := ev_table k n V ss g h
  have il := ev_is_lid_of k n a e (Tb V ss) w g (tm_of h) ha hw he
  simp only [b_is_lid, evSs_cons, evSs_nil, evS_ex, evS_ret, evE_call, evE_bi, evE_ix, evE_lit, evEs_cons, evEs_nil, evE_var, getS_z, getS_s, slV_p, bind_ok, nw, to_ok, thenS_nx, wx0, lenV, of_some, nv, nW, tb, il, thenS_ret, outR_ret]
theorem ev_least_lid (k n a : Nat) (V : Ves) (ss : List Stp) (g : Gs) (h : WayOk n V ss) (ha : a < n) : evF TT (k + 8) i_least_lid [wayD n V ss, .int (a : Int)] g = .ok (row n (lidV n (Tb V ss) a)) g := by
  rw [evF_s T_least_lid, runF_eq rfl]
  show outR (evSs (evF TT (k + 7)) b_least_lid [.p (wayD n V ss), .p (.int (a : Int))] g) = _
  have nw := ev_need_way (k + 2) n V ss g h
  have nv := ev_need_vessel (k + 4) n a g ha
  have tb := ev_table (k + 1) n V ss g h
  have ll := ev_least_for k n a (Tb V ss) g (tm_of h) ha
  simp only [b_least_lid, evSs_cons, evSs_nil, evS_ex, evS_ret, evE_call, evE_bi, evE_ix, evE_lit, evEs_cons, evEs_nil, evE_var, getS_z, getS_s, slV_p, bind_ok, nw, to_ok, thenS_nx, wx0, lenV, of_some, nv, tb, ll, thenS_ret, outR_ret]
theorem ev_most_by (k n a e : Nat) (V : Ves) (ss : List Stp) (w x : Vc) (g : Gs) (h : WayOk n V ss) (ha : a < n) (hw : Rb n e w) (he : e ≤ 6000) (hA : ∀ i, i < n → Amt (w i)) (hl : lidB n (Tb V ss) a w = true) (hx : ∀ i, i < n → Amt (x i)) (hs : SmD n w x) :
    evF TT (k + 7) i_most_by [wayD n V ss, .int (a : Int), row n w, row n x] g = .ok (fr (sumN n fun i => w i * x i)) g := by
  rw [evF_s T_most_by, runF_eq rfl]
  show outR (evSs (evF TT (k + 6)) b_most_by [.p (wayD n V ss), .p (.int (a : Int)), .p (row n w), .p (row n x)] g) = _
  have n3 := h.n3
  have nw := ev_need_way (k + 1) n V ss g h
  have nv := ev_need_vessel (k + 3) n a g ha
  have nW := ev_need_weights k n w g (by omega) hA
  have tb := ev_table k n V ss g h
  have il := ev_is_lid_of k n a e (Tb V ss) w g (tm_of h) ha hw he
  rw [hl] at il
  have nd := ev_need_dirt k n x g (by omega) hx
  have d := ev_dot (k + 1) n w x (row n w) (row n x) g (by omega) (sq_tf _ _) (sq_tf _ _) hs
  simp only [b_most_by, evSs_cons, evSs_nil, evS_ex, evS_ite, evS_ret, evE_not, evE_call, evE_bi, evE_ix, evE_lit, evEs_cons, evEs_nil, evE_var, getS_z, getS_s, slV_p, bind_ok, nw, to_ok, thenS_nx, wx0, lenV, of_some, nv, nW, tb, il, notD_bl, Bool.not_true, iteD_bl, Bool.false_eq_true, if_false, nd, d, thenS_ret, outR_ret]
theorem ev_most_no (k n a e : Nat) (V : Ves) (ss : List Stp) (w x : Vc) (g : Gs) (h : WayOk n V ss) (ha : a < n) (hw : Rb n e w) (he : e ≤ 6000) (hA : ∀ i, i < n → Amt (w i)) (hl : lidB n (Tb V ss) a w = false) :
    evF TT (k + 7) i_most_by [wayD n V ss, .int (a : Int), row n w, row n x] g = .exc 5 .non g := by
  rw [evF_s T_most_by, runF_eq rfl]
  show outR (evSs (evF TT (k + 6)) b_most_by [.p (wayD n V ss), .p (.int (a : Int)), .p (row n w), .p (row n x)] g) = _
  have n3 := h.n3
  have nw := ev_need_way (k + 1) n V ss g h
  have nv := ev_need_vessel (k + 3) n a g ha
  have nW := ev_need_weights k n w g (by omega) hA
  have tb := ev_table k n V ss g h
  have il := ev_is_lid_of k n a e (Tb V ss) w g (tm_of h) ha hw he
  rw [hl] at il
  simp only [b_most_by, evSs_cons, evSs_nil, evS_ex, evS_ite, evE_not, evE_call, evE_bi, evE_ix, evE_lit, evEs_cons, evEs_nil, evE_var, getS_z, getS_s, slV_p, bind_ok, nw, to_ok, thenS_nx, wx0, lenV, of_some, nv, nW, tb, il, notD_bl, Bool.not_false, iteD_bl, if_true, evS_rai0, thenS_exc, outR_exc]
theorem pl_encV (k : Nat) (V : Ves) (i : Nat) : Pl (k + 1) (encV V i) := pl_tup fun d hd => by
  simp only [List.mem_cons, List.not_mem_nil, or_false] at hd
  rcases hd with rfl | rfl | rfl <;> exact pl_int _ _
theorem pl_vsD (k n : Nat) (V : Ves) : Pl (k + 2) (vsD n V) := pl_tf fun i _ => pl_encV k V i
theorem ne_pl {x y : D} (hx : Pl 60 x) (hy : Pl 60 y) : op2 .ne x y = some (.bl (!D.eqv x y)) := by
  show (if shp2 x y = true then _ else none) = _
  rw [if_pos (by unfold shp2; rw [hx.shp, hy.shp]; rfl)]
theorem eq_pl {x y : D} (hx : Pl 60 x) (hy : Pl 60 y) : op2 .eq x y = some (.bl (D.eqv x y)) := by
  show (if shp2 x y = true then _ else none) = _
  rw [if_pos (by unfold shp2; rw [hx.shp, hy.shp]; rfl)]
def lidLoop : List St := [.asg 3 (.call i_greater [.var 3, .call i_least_for [.var 4, .var 2]])]
theorem ev_common_lid (k n a : Nat) (V V' : Ves) (ss ss' : List Stp) (g : Gs) (h : WayOk n V ss) (h' : WayOk n V' ss') (e : D.eqv (vsD n V) (vsD n V') = true) (ha : a < n) :
    evF TT (k + 8) i_common_lid [wayD n V ss, wayD n V' ss', .int (a : Int)] g = .ok (row n (lidM n (Tb V ss) (Tb V' ss') a (polN n))) g := by
  rw [evF_s T_common_lid, runF_eq rfl]
  show outR (evSs (evF TT (k + 7)) b_common_lid [.p (wayD n V ss), .p (wayD n V' ss'), .p (.int (a : Int)), .u, .u] g) = _
  have n3 := h.n3
  have nw := ev_need_way (k + 2) n V ss g h
  have nw' := ev_need_way (k + 2) n V' ss' g h'
  have nv := ev_need_vessel (k + 4) n a g ha
  have tb := ev_table (k + 1) n V ss g h
  have tb' := ev_table (k + 1) n V' ss' g h'
  have ne := ne_pl (pl_vsD 58 n V) (pl_vsD 58 n V')
  rw [e] at ne
  have TP := tm_of h
  have TQ := tm_of h'
  generalize Tb V ss = P at *
  generalize Tb V' ss' = Q at *
  have ch := ev_chosen (k + 6) n P Q g n3
  have z := mul_t (.tup [.int 0, .int 1]) n (by omega)
  have ez : (tf n fun _ => D.tup [.int 0, .int 1]) = row n (lidM n P Q a []) := rfl
  rw [ez] at z
  have is : items .seq [chsD n n P Q (polN n)] = some ((polN n).map (chT n n P Q)) := rfl
  generalize hb2 : lidLoop = body2
  have fm : ∀ (l done : List (Nat → Bool)) (y4 : Sl), ∃ z4, forL (bodyOf (evF TT (k + 7)) body2) (.nm 4) (l.map (chT n n P Q)) [.p (wayD n V ss), .p (wayD n V' ss'), .p (.int (a : Int)), .p (row n (lidM n P Q a done)), y4] g = .nx [.p (wayD n V ss), .p (wayD n V' ss'), .p (.int (a : Int)), .p (row n (lidM n P Q a (done ++ l))), z4] g := by
    intro l
    induction l with
    | nil => intro done y4; exact ⟨y4, by rw [List.append_nil]; rfl⟩
    | cons p l ih =>
      intro done y4
      have ls := ev_least_for k n a (mixP P Q p) g (tm_mix TP TQ p) ha
      have ls' : evF TT (k + 7) i_least_for [chT n n P Q p, .int (a : Int)] g = .ok (row n (lidV n (mixP P Q p) a)) g := ls
      have gr := ev_greater (k + 5) n (lidM n P Q a done) (lidV n (mixP P Q p) a) g (by omega) (fun i hi => lidM_sm TP TQ ha done hi) fun i hi => (lid_rb (tm_mix TP TQ p) ha).sm (by decide) hi
      rw [← lidM_snoc] at gr
      have bd : bodyOf (evF TT (k + 7)) body2 [.p (wayD n V ss), .p (wayD n V' ss'), .p (.int (a : Int)), .p (row n (lidM n P Q a done)), .p (chT n n P Q p)] g = .nx [.p (wayD n V ss), .p (wayD n V' ss'), .p (.int (a : Int)), .p (row n (lidM n P Q a (done ++ [p]))), .p (chT n n P Q p)] g := by
        rw [bodyOf_eq, ← hb2]
        simp only [lidLoop, evSs_cons, evSs_nil, evS_asg, evE_call, evEs_cons, evEs_nil, evE_var, getS_z, getS_s, slV_p, bind_ok, ls', gr, to_ok, setS_z, setS_s, thenS_nx]
      obtain ⟨z4, q⟩ := ih (done ++ [p]) (.p (chT n n P Q p))
      refine ⟨z4, ?_⟩
      rw [List.map_cons, forL_nx (b := bodyOf (evF TT (k + 7)) body2) (t := .nm 4) (e1 := [.p (wayD n V ss), .p (wayD n V' ss'), .p (.int (a : Int)), .p (row n (lidM n P Q a done)), .p (chT n n P Q p)]) rfl bd, q, List.append_assoc]; rfl
  obtain ⟨z4, f2⟩ := fm (polN n) [] .u
  rw [List.nil_append] at f2
  have hb : b_common_lid = [.ex (.call i_need_way [.var 0]), .ex (.call i_need_way [.var 1]), .ite (.op .ne (.ix (.var 0) (.lit (.int 0))) (.ix (.var 1) (.lit (.int 0)))) [.rai 11 []] [],
    .ex (.call i_need_vessel [.bi .len [.ix (.var 0) (.lit (.int 0))], .var 2]), .asg 3 (.op .mul (.tup [.glo [90, 69, 82, 79] (.tup [(.int 0),
    (.int 1)])]) (.bi .len [.ix (.var 0) (.lit (.int 0))])), .for_ (.nm 4) .seq [.call i_chosen [.call i_table_of [.var 0],
    .call i_table_of [.var 1]]] body2, .ret (.var 3)] := by rw [← hb2]; rfl
  rw [hb]
  simp only [evSs_cons, evSs_nil, evS_ex, evS_ite, evS_asg, evS_for, evS_ret, evE_call, evE_bi, evE_op, evE_ix, evE_tup, evE_glo, evE_lit, evEs_cons, evEs_nil, evE_var, getS_z, getS_s, setS_z, setS_s, slV_p, bind_ok, nw, nw', to_ok, thenS_nx, wx0, lenV, of_some, ne, Bool.not_true, iteD_bl, Bool.false_eq_true, if_false, nv, z, tb, tb', ch, fork_ok, is, forD_some, f2, thenS_ret, outR_ret]
theorem ev_common_no (k n a : Nat) (V V' : Ves) (ss ss' : List Stp) (g : Gs) (h : WayOk n V ss) (h' : WayOk n V' ss') (e : D.eqv (vsD n V) (vsD n V') = false) :
    evF TT (k + 8) i_common_lid [wayD n V ss, wayD n V' ss', .int (a : Int)] g = .exc 11 .non g := by
  rw [evF_s T_common_lid, runF_eq rfl]
  show outR (evSs (evF TT (k + 7)) b_common_lid [.p (wayD n V ss), .p (wayD n V' ss'), .p (.int (a : Int)), .u, .u] g) = _
  have nw := ev_need_way (k + 2) n V ss g h
  have nw' := ev_need_way (k + 2) n V' ss' g h'
  have ne := ne_pl (pl_vsD 58 n V) (pl_vsD 58 n V')
  rw [e] at ne
  simp only [b_common_lid, evSs_cons, evSs_nil, evS_ex, evS_ite, evE_call, evE_op, evE_ix, evE_lit, evEs_cons, evEs_nil, evE_var, getS_z, getS_s, slV_p, bind_ok, nw, nw', to_ok, thenS_nx, wx0, of_some, ne, Bool.not_false, iteD_bl, if_true, evS_rai0, thenS_exc, outR_exc]
end Rz
/-! RzG52 -/
set_option linter.all false
set_option maxRecDepth 100000
set_option exponentiation.threshold 20000
namespace Rz
/-! ### the law k05: its own looks -/
theorem T_law_is_lid : TT i_law_is_lid = some d_law_is_lid := rfl
theorem T_law_can_go_in : TT i_law_can_go_in = some d_law_can_go_in := rfl
theorem T_law_weights : TT i_law_weights = some d_law_weights := rfl
theorem T_law_kept : TT i_law_kept = some d_law_kept := rfl
theorem T_law_word_k05 : TT i_law_word_k05 = some d_law_word_k05 := rfl
theorem find_any {α : Type} {l : List α} {p : α → Bool} : (l.find? p = none → l.any p = false) ∧ ∀ j, l.find? p = some j → l.any p = true := by
  constructor
  · intro h
    rw [List.any_eq_false]
    intro x hx
    exact List.find?_eq_none.mp h x hx
  · intro j h
    exact List.any_eq_true.mpr ⟨j, List.mem_of_find?_eq_some h, List.find?_some h⟩
def lawlidIt : List St := [.ite (.call i_law_less [.var 4, .call i_law_all [.comp (.call i_law_mul [.var 5, .var 6]) (.tp [(.nm 5), (.nm 6)]) .zip [.var 3,
    .var 2] []]]) [.ret (.lit (.bl false))] []]
theorem ev_law_is_lid (k n a e : Nat) (P : Nat → Nat → Rat) (w : Vc) (g : Gs) (T : Tm n P) (ha : a < n) (hw : Rb n e w) (he : e ≤ 6000) : evF TT (k + 4) i_law_is_lid [tab n n P, .int (a : Int), row n w] g = .ok (.bl (lidB n P a w)) g := by
  rw [evF_s T_law_is_lid, runF_eq rfl]
  show outR (evSs (evF TT (k + 3)) b_law_is_lid [.p (tab n n P), .p (.int (a : Int)), .p (row n w), .u, .u, .u, .u] g) = _
  have n3 := T.t.n3
  have sw : ∀ i, i < n → Sm (w i) := fun i hi => hw.sm (by omega) hi
  have xa := ixRow ha w g
  have l1 := ev_law_less (k + 2) (w a) 1 g (sw a ha) sm_one
  rw [fr_one] at l1
  have iz : items .zip [tab n n P, row n w] = some ((List.range n).map fun i => D.tup [row n (P i), fr (w i)]) := items_zip (sq_tf _ _) (sq_tf _ _)
  generalize hbd : lawlidIt = body
  have fl := forL_find' (b := bodyOf (evF TT (k + 3)) body) (t := .tp [(.nm 3), (.nm 4)]) (f := fun i => D.tup [row n (P i), fr (w i)]) (g := g) (fun i => decide (w i < sumN n fun j => P i j * w j)) (fun _ => .bl false) (fun en => ∃ y3 y4, en = [.p (tab n n P), .p (.int (a : Int)), .p (row n w), y3, y4, .u, .u]) n (fun i en hi ⟨y3, y4, he'⟩ => by
    subst he'
    refine ⟨[.p (tab n n P), .p (.int (a : Int)), .p (row n w), .p (row n (P i)), .p (fr (w i)), .u, .u], rfl, ?_⟩
    have sd := rb_smd (T.rb hi) hw (by omega) (by omega)
    have z2 : items .zip [row n (P i), row n w] = some ((List.range n).map fun j => D.tup [fr (P i j), fr (w j)]) := items_zip (sq_tf _ _) (sq_tf _ _)
    have c : compD (evF TT (k + 3)) (.call i_law_mul [.var 5, .var 6]) (.tp [(.nm 5), (.nm 6)]) [] [.p (tab n n P), .p (.int (a : Int)), .p (row n w), .p (row n (P i)), .p (fr (w i)), .u, .u] g (some ((List.range n).map fun j => D.tup [fr (P i j), fr (w j)])) = .ok (lrow n fun j => P i j * w j) g :=
      compD_n (fun j => fr (P i j * w j)) (by omega) fun j hj => ⟨[.p (tab n n P), .p (.int (a : Int)), .p (row n w), .p (row n (P i)), .p (fr (w i)), .p (fr (P i j)), .p (fr (w j))], rfl, by
        have m := ev_law_mul (k + 1) (P i j) (w j) g (T.sm hi hj) (sw j hj)
        simp only [evE_call, evEs_cons, evEs_nil, evE_var, getS_z, getS_s, slV_p, bind_ok, m]⟩
    have al := ev_law_all k n (fun j => P i j * w j) (lrow n fun j => P i j * w j) g (sq_lf _ _) sd.ps
    have l := ev_law_less (k + 2) (w i) (sumN n fun j => P i j * w j) g (sw i hi) (sd.ps.sum n (Nat.le_refl n))
    rw [bodyOf_eq, ← hbd]
    by_cases h : w i < sumN n fun j => P i j * w j
    · rw [decide_eq_true h] at l
      left
      refine ⟨decide_eq_true h, ?_⟩
      simp only [lawlidIt, evSs_cons, evSs_nil, evS_ite, evS_ret, evE_call, evE_comp, evE_lit, evEs_cons, evEs_nil, evE_var, getS_z, getS_s, slV_p, bind_ok, z2, c, al, l, to_ok, iteD_bl, if_true, thenS_ret]
    · rw [decide_eq_false h] at l
      right
      refine ⟨decide_eq_false h, [.p (tab n n P), .p (.int (a : Int)), .p (row n w), .p (row n (P i)), .p (fr (w i)), .u, .u], .inl ?_, _, _, rfl⟩
      simp only [lawlidIt, evSs_cons, evSs_nil, evS_ite, evE_call, evE_comp, evEs_cons, evEs_nil, evE_var, getS_z, getS_s, slV_p, bind_ok, z2, c, al, l, to_ok, iteD_bl, Bool.false_eq_true, if_false, thenS_nx]) n 0 [.p (tab n n P), .p (.int (a : Int)), .p (row n w), .u, .u, .u, .u] (by omega) ⟨.u, .u, rfl⟩
  rw [← List.range_eq_range'] at fl
  have hb : b_law_is_lid = [.ite (.call i_law_less [.ix (.var 2) (.var 1), .tup [.lit (.int 1), .lit (.int 1)]]) [.ret (.lit (.bl false))] [], .for_ (.tp [(.nm 3), (.nm 4)]) .zip [.var 0,
    .var 2] body, .ret (.lit (.bl true))] := by rw [← hbd]; rfl
  rw [hb]
  unfold lidB
  by_cases h : w a < 1
  · rw [decide_eq_true h] at l1 ⊢
    simp only [evSs_cons, evSs_nil, evS_ite, evS_ret, evE_call, evE_ix, evE_tup, evEs_cons, evEs_nil, evE_var, evE_lit, getS_z, getS_s, slV_p, bind_ok, xa, of_some, l1, to_ok, iteD_bl, if_true, thenS_ret, outR_ret]
    rfl
  · rw [decide_eq_false h] at l1 ⊢
    rcases fl with ⟨j, q1, q2⟩ | ⟨q1, env', q2, y3, y4, he'⟩
    · rw [find_any.2 j q1]
      simp only [evSs_cons, evSs_nil, evS_ite, evS_for, evE_call, evE_ix, evE_tup, evEs_cons, evEs_nil, evE_var, evE_lit, getS_z, getS_s, slV_p, bind_ok, xa, of_some, l1, to_ok, iteD_bl, Bool.false_eq_true, if_false, thenS_nx, fork_ok, iz, forD_some, q2, thenS_ret, outR_ret]
      rfl
    · rw [find_any.1 q1]
      subst he'
      simp only [evSs_cons, evSs_nil, evS_ite, evS_for, evS_ret, evE_call, evE_ix, evE_tup, evEs_cons, evEs_nil, evE_var, evE_lit, getS_z, getS_s, slV_p, bind_ok, xa, of_some, l1, to_ok, iteD_bl, Bool.false_eq_true, if_false, thenS_nx, fork_ok, iz, forD_some, q2, thenS_ret, outR_ret]
      rfl
theorem ev_can_go_in (k n : Nat) (w : Vc) (g : Gs) (hn : n ≤ 1000) : evF TT (k + 1) i_law_can_go_in [row n w] g = .ok (.bl ((List.range n).filter fun a => bigQ (w a)).isEmpty) g := by
  rw [evF_s T_law_can_go_in, runF_eq rfl]
  show outR (evSs (evF TT k) b_law_can_go_in [.p (row n w), .u] g) = _
  have i0 : items .seq [row n w] = some ((List.range n).map fun i => fr (w i)) := items_seq (sq_tf _ _)
  have pw : op2 .pow (.int 10) (.int 38) = some (.int 100000000000000000000000000000000000000) := by rfl
  have cf : compD (evF TT k) (.var 1) (.nm 1) [.op .gt (.bi .max2 [.ix (.var 1) (.lit (.int 0)),
    .ix (.var 1) (.lit (.int 1))]) (.op .pow (.lit (.int 10)) (.lit (.int 38)))] [.p (row n w), .u] g (some ((List.range n).map fun i => fr (w i))) = .ok (.lst (((List.range n).filter fun a => bigQ (w a)).map fun a => fr (w a))) g :=
    compD_f (List.range n) (fun a => fr (w a)) (fun a => bigQ (w a)) (fun a => fr (w a)) (by simp; omega) fun a ha => ⟨[.p (row n w), .p (fr (w a))], rfl, by
      simp only [evE_op, evE_bi, evEs_cons, evEs_nil, evE_ix, evE_var, evE_lit, getS_z, getS_s, slV_p, bind_ok, ixq0, ixq1, of_some, max2_i, pw, op_gt_i]; rfl, fun _ => by simp only [evE_var, getS_z, getS_s, slV_p]⟩
  have nl : op2 .eq (.lst (((List.range n).filter fun a => bigQ (w a)).map fun a => fr (w a))) (.lst []) = some (.bl ((List.range n).filter fun a => bigQ (w a)).isEmpty) := by
    rw [nil_eq fun d hd => by
      obtain ⟨a, _, rfl⟩ := List.mem_map.mp hd
      exact pl_fr 58 _]
    cases (List.range n).filter fun a => bigQ (w a) <;> rfl
  simp only [b_law_can_go_in, evSs_cons, evSs_nil, evS_ret, evE_op, evE_comp, evEs_cons, evEs_nil, evE_var, evE_lst, getS_z, getS_s, slV_p, bind_ok, i0, cf, nl, of_some, to_ok, thenS_ret, outR_ret]
/-- a number near to another one -/
def Near (v w : Rat) : Prop := w = v ∨ w = v + 1 / 3 ∨ w = v * (99 / 100) ∨ w = 1 ∨ w = 0
theorem fr_lit {q : Rat} {a : Int} {b : Nat} (h1 : q.num = a) (h2 : q.den = b) : D.tup [.int a, .int (b : Int)] = fr q := by unfold fr; rw [h1, h2]
theorem third_fr : D.tup [.int 1, .int 3] = fr (1 / 3) := fr_lit (a := 1) (b := 3) (by decide +kernel) (by decide +kernel)
theorem most_fr : D.tup [.int 99, .int 100] = fr (99 / 100) := fr_lit (a := 99) (b := 100) (by decide +kernel) (by decide +kernel)
theorem sm_lit {q : Rat} (h1 : q.num.natAbs ≤ 1000) (h2 : q.den ≤ 1000) : Sm q := by
  have : (1000 : Nat) < BB := by rw [BB_eq]; exact Nat.lt_of_lt_of_le (show 1000 < 2 ^ 10 by decide) (Nat.pow_le_pow_right (by decide) (by decide))
  exact ⟨by omega, by omega⟩
theorem sm_third : Sm (1 / 3) := sm_lit (by decide +kernel) (by decide +kernel)
theorem sm_most : Sm (99 / 100) := sm_lit (by decide +kernel) (by decide +kernel)
theorem near_rb {n : Nat} {v w : Vc} (hv : Rb n 99 v) (h : ∀ i, i < n → Near (v i) (w i)) : Rb n 110 w := by
  obtain ⟨D, d1, d2, d3⟩ := hv.ex
  have p : (2 : Nat) ^ 110 = 2048 * 2 ^ 99 := by
    rw [show (110 : Nat) = 11 + 99 by decide, Nat.pow_add]
  refine ⟨D * 300, by omega, by omega, fun i hi => ?_⟩
  obtain ⟨z, e, hz⟩ := d3 i hi
  rcases h i hi with q | q | q | q | q <;> rw [q]
  · exact ⟨z * 300, by push_cast; rw [← e]; grind, by omega⟩
  · exact ⟨z * 300 + 100 * D, by push_cast; rw [← e]; grind, by omega⟩
  · exact ⟨z * 297, by push_cast; rw [← e]; grind, by omega⟩
  · exact ⟨(D : Int) * 300, by push_cast; grind, by omega⟩
  · exact ⟨0, by push_cast; grind, by omega⟩
theorem near_nn {v w : Rat} (hv : 0 ≤ v) (h : Near v w) : 0 ≤ w := by
  rcases h with rfl | rfl | rfl | rfl | rfl
  · exact hv
  · have : (0 : Rat) ≤ 1 / 3 := by decide +kernel
    grind
  · exact Rat.mul_nonneg hv (by decide +kernel)
  · decide
  · decide
def wtBody : List St := [.asg 4 (.lst [.var 3, .var 3, .call i_law_add [.var 3, .tup [.lit (.int 1), .lit (.int 3)]],
    .call i_law_mul [.var 3, .tup [.lit (.int 99), .lit (.int 100)]], .tup [.lit (.int 1), .lit (.int 1)], .tup [.lit (.int 0), .lit (.int 1)]]),
    .asg 2 (.op .add (.var 2) (.tup [.call i_law_some [.var 0, .var 4]]))]
theorem ev_law_weights (k m n : Nat) (v : Vc) (g : Gs) (hs : Sv g m) (hn : n ≤ 3) (hv : ∀ i, i < n → Sm (v i)) : ∃ (w : Vc) (g' : Gs), evF TT (k + 3) i_law_weights [.mref m, row n v] g = .ok (row n w) g' ∧ (∀ i, i < n → Near (v i) (w i)) ∧ Sv g' m := by
  rw [evF_s T_law_weights, runF_eq rfl]
  show ∃ (w : Vc) (g' : Gs), outR (evSs (evF TT (k + 2)) b_law_weights [.p (.mref m), .p (row n v), .u, .u, .u] g) = _ ∧ _
  generalize hbd : wtBody = body
  obtain ⟨env', g', f1, w, hw, y3, y4, he, hs'⟩ := forL_n (t := .nm 3) (f := fun i => fr (v i)) (b := bodyOf (evF TT (k + 2)) body) (env := [.p (.mref m), .p (row n v), .p (.tup []), .u, .u]) (g := g)
    (fun i en g => ∃ w : Vc, (∀ j, j < i → Near (v j) (w j)) ∧ ∃ y3 y4, en = [.p (.mref m), .p (row n v), .p (row i w), y3, y4] ∧ Sv g m) n (fun i en g hi ⟨w, hw, y3, y4, he, hs⟩ => by
      subst he
      have a1 := ev_law_add k (v i) (1 / 3) g (hv i hi) sm_third
      have a2 := ev_law_mul k (v i) (99 / 100) g (hv i hi) sm_most
      rw [← third_fr] at a1
      rw [← most_fr] at a2
      obtain ⟨d, g2, q, hd, hs2⟩ := some_l k m [fr (v i), fr (v i), fr (v i + 1 / 3), fr (v i * (99 / 100)), .tup [.int 1, .int 1], .tup [.int 0, .int 1]] g hs (by simp) (by simp)
      obtain ⟨x, rfl, hx⟩ : ∃ x, d = fr x ∧ Near (v i) x := by
        simp only [List.mem_cons, List.not_mem_nil, or_false] at hd
        rcases hd with h | h | h | h | h | h
        · exact ⟨_, h, .inl rfl⟩
        · exact ⟨_, h, .inl rfl⟩
        · exact ⟨_, h, .inr (.inl rfl)⟩
        · exact ⟨_, h, .inr (.inr (.inl rfl))⟩
        · exact ⟨1, h, .inr (.inr (.inr (.inl rfl)))⟩
        · exact ⟨0, h, .inr (.inr (.inr (.inr rfl)))⟩
      have sn := row_snoc i w x (by omega)
      refine ⟨_, rfl, [.p (.mref m), .p (row n v), .p (row (i + 1) (up w i x)), .p (fr (v i)), .p (.lst [fr (v i), fr (v i), fr (v i + 1 / 3), fr (v i * (99 / 100)), .tup [.int 1, .int 1], .tup [.int 0, .int 1]])], g2, .inl ?_, up w i x, fun j hj => ?_, _, _, rfl, hs2⟩
      · rw [bodyOf_eq, ← hbd]
        simp only [wtBody, setS_z, setS_s, evSs_cons, evSs_nil, evS_asg, evE_lst, evE_call, evE_tup, evE_op, evE_lit, evEs_cons, evEs_nil, evE_var, getS_z, getS_s, slV_p, bind_ok, a1, a2, to_ok, thenS_nx, q, sn, of_some]
      · simp only [up]
        by_cases c : j = i
        · rw [if_pos c, c]; exact hx
        · rw [if_neg c]; exact hw j (by omega)) ⟨fun _ => 0, fun j hj => by omega, .u, .u, rfl, hs⟩
  refine ⟨w, g', ?_, hw, hs'⟩
  subst he
  have i0 : items .seq [row n v] = some ((List.range n).map fun i => fr (v i)) := items_seq (sq_tf _ _)
  have hb : b_law_weights = [.asg 2 (.tup []), .for_ (.nm 3) .seq [.var 1] body, .ret (.var 2)] := by rw [← hbd]; rfl
  rw [hb]
  simp only [evSs_cons, evSs_nil, evS_asg, evS_for, evS_ret, evE_tup, evEs_cons, evEs_nil, evE_var, getS_z, getS_s, slV_p, bind_ok, to_ok, setS_z, setS_s, thenS_nx, fork_ok, i0, forD_some, f1, thenS_ret, outR_ret]
/-! whichever is done, no more comes in -/
theorem kept_step {n a : Nat} {A : Nat → Nat → Rat} {V x : Vc} (h0 : ∀ i, i < n → 0 ≤ x i) (sup : ∀ i, i < n → (sumN n fun j => A i j * V j) ≤ V i) : (sumN n fun j => V j * ledN n x A j) ≤ sumN n fun i => V i * x i := by
  have e1 : (sumN n fun j => V j * ledN n x A j) = sumN n fun i => x i * sumN n fun j => A i j * V j := by
    have a1 : (fun j => V j * ledN n x A j) = fun j => sumN n fun i => V j * (x i * A i j) := by
      funext j
      unfold ledN
      rw [sumN_mull]
    have a2 : (fun i => x i * sumN n fun j => A i j * V j) = fun i => sumN n fun j => V j * (x i * A i j) := by
      funext i
      rw [← sumN_mull]
      congr 1
      funext j; grind
    rw [a1, a2, sumN_swap]
  rw [e1]
  refine sumN_le_sumN fun i hi => ?_
  have := Rat.mul_le_mul_of_nonneg_left (sup i hi) (h0 i hi)
  grind
def keptBody : List St := [.asg 3 (.call i_law_led [.var 3, .call i_law_some [.var 1, .var 0]]), .ite (.call i_law_less [.var 4,
    .ix (.var 3) (.var 2)]) [.ret (.lit (.bl false))] []]
theorem ev_law_kept (k m n a : Nat) (P Q : Nat → Nat → Rat) (V x : Vc) (q : Rat) (g : Gs) (hs : Sv g m) (hn : n ≤ 3) (ha : a < n) (hP : ∃ W, W ≤ 2 ^ 29 ∧ Sh n W P) (hQ : ∃ W, W ≤ 2 ^ 29 ∧ Sh n W Q) (hx : Dt n x) (hq : Sm q)
    (V0 : ∀ i, i < n → 0 ≤ V i) (Va : 1 ≤ V a) (sP : ∀ i, i < n → (sumN n fun j => P i j * V j) ≤ V i) (sQ : ∀ i, i < n → (sumN n fun j => Q i j * V j) ≤ V i) (hV : (sumN n fun i => V i * x i) ≤ q) :
    ∃ g', evF TT (k + 5) i_law_kept [.lst [tab n n P, tab n n Q], .mref m, .int (a : Int), row n x, fr q] g = .ok (.bl true) g' ∧ Sv g' m := by
  rw [evF_s T_law_kept, runF_eq rfl]
  show ∃ g', outR (evSs (evF TT (k + 4)) b_law_kept [.p (.lst [tab n n P, tab n n Q]), .p (.mref m), .p (.int (a : Int)), .p (row n x), .p (fr q), .u] g) = _ ∧ _
  generalize hbd : keptBody = body
  obtain ⟨env', g', f1, y, D0, d1, d2, d3, d4, y5, he, hs'⟩ := forL_n (t := .nm 5) (f := fun (i : Nat) => D.int (i : Int)) (b := bodyOf (evF TT (k + 4)) body) (env := [.p (.lst [tab n n P, tab n n Q]), .p (.mref m), .p (.int (a : Int)), .p (row n x), .p (fr q), .u]) (g := g)
    (fun i en g => ∃ (y : Vc) (D : Nat), 0 < D ∧ D ≤ 2 ^ (5 + 29 * i) ∧ Dr D (3 * 10 ^ 20) n y ∧ (sumN n fun j => V j * y j) ≤ q ∧ ∃ y5, en = [.p (.lst [tab n n P, tab n n Q]), .p (.mref m), .p (.int (a : Int)), .p (row n y), .p (fr q), y5] ∧ Sv g m) 30 (fun i en g hi ⟨y, D, d1, d2, d3, d4, y5, he, hs⟩ => by
      subst he
      obtain ⟨d, g2, q2, hd, hs2⟩ := some_l (k + 2) m [tab n n P, tab n n Q] g hs (by simp) (by simp)
      obtain ⟨A, rfl, ⟨W, hW, sh⟩, sup⟩ : ∃ A, d = tab n n A ∧ (∃ W, W ≤ 2 ^ 29 ∧ Sh n W A) ∧ ∀ i, i < n → (sumN n fun j => A i j * V j) ≤ V i := by
        simp only [List.mem_cons, List.not_mem_nil, or_false] at hd
        rcases hd with h | h
        · exact ⟨P, h, hP, sP⟩
        · exact ⟨Q, h, hQ, sQ⟩
      have dw : D * W ≤ 2 ^ (5 + 29 * (i + 1)) := by
        have := Nat.mul_le_mul d2 hW
        rw [← Nat.pow_add] at this
        have e : 5 + 29 * i + 29 = 5 + 29 * (i + 1) := by omega
        rwa [e] at this
      have big : 3 * 10 ^ 20 * (D * W) < BB := by
        have b1 : 3 * 10 ^ 20 ≤ 2 ^ 70 := by decide
        have b2 : D * W ≤ 2 ^ 1000 := Nat.le_trans dw (Nat.pow_le_pow_right (by decide) (by omega))
        have := Nat.mul_le_mul b1 b2
        rw [← Nat.pow_add] at this
        exact Nat.lt_of_le_of_lt this (by rw [BB_eq]; exact Nat.pow_lt_pow_right (by decide) (by decide))
      have big0 : 3 * 10 ^ 20 * D < BB := by
        refine Nat.lt_of_le_of_lt ?_ big
        rw [← Nat.mul_assoc]
        exact Nat.le_mul_of_pos_right _ sh.W0
      have ld := ev_law_led k n n y A g2 (by omega) (Nat.le_refl n) fun j hj => ⟨fun i hi => (d3.sms d1 (by decide) big0).part i hi, fun i hi => (sh_mz sh hW).sm (by decide) hi hj, (col_dr d3 sh.dr hj).sms (Nat.mul_pos d1 sh.W0) (by decide) big⟩
      have ld' : evF TT (k + 4) i_law_led [row n y, tab n n A] g2 = .ok (row n (ledN n y A)) g2 := ld
      have dr := led_dr d3 sh.dr
      have ks := kept_step (a := a) (A := A) (V := V) (x := y) d3.lo sup
      have le : (sumN n fun j => V j * ledN n y A j) ≤ q := Rat.le_trans ks d4
      have ya : ledN n y A a ≤ q := by
        have h1 := sumN_le (x := fun j => V j * ledN n y A j) (fun j hj => Rat.mul_nonneg (V0 j hj) (dr.lo j hj)) ha
        have h2 := Rat.mul_le_mul_of_nonneg_right Va (dr.lo a ha)
        have h1' : V a * ledN n y A a ≤ sumN n fun j => V j * ledN n y A j := h1
        have h2' : 1 * ledN n y A a ≤ V a * ledN n y A a := h2
        grind
      have lt : ¬ q < ledN n y A a := by grind
      have ls := ev_law_less (k + 3) q (ledN n y A a) g2 hq ((dr.sms (Nat.mul_pos d1 sh.W0) (by decide) big).part a ha)
      rw [decide_eq_false lt] at ls
      have xa := ixRow ha (ledN n y A) g2
      refine ⟨_, rfl, [.p (.lst [tab n n P, tab n n Q]), .p (.mref m), .p (.int (a : Int)), .p (row n (ledN n y A)), .p (fr q), .p (.int (i : Int))], g2, .inl ?_, ledN n y A, D * W, Nat.mul_pos d1 sh.W0, dw, dr, le, _, rfl, hs2⟩
      rw [bodyOf_eq, ← hbd]
      simp only [keptBody, setS_z, setS_s, evSs_cons, evSs_nil, evS_asg, evS_ite, evE_call, evE_ix, evEs_cons, evEs_nil, evE_var, getS_z, getS_s, slV_p, bind_ok, q2, ld', to_ok, thenS_nx, xa, of_some, ls, iteD_bl, Bool.false_eq_true, if_false]) ⟨x, 18, by decide, by decide, hx.dr, hV, .u, rfl, hs⟩
  refine ⟨g', ?_, hs'⟩
  subst he
  have r30 : items .rng [.int 30] = some ((List.range 30).map fun (i : Nat) => D.int (i : Int)) := items_rng (n := 30) (by decide)
  have hb : b_law_kept = [.for_ (.nm 5) .rng [.lit (.int 30)] body, .ret (.lit (.bl true))] := by rw [← hbd]; rfl
  rw [hb]
  simp only [evSs_cons, evSs_nil, evS_for, evS_ret, evE_lit, evEs_cons, evEs_nil, bind_ok, fork_ok, r30, forD_some, f1, to_ok, thenS_nx, thenS_ret, outR_ret]
/-! the words for errors -/
def sW : D := .str [119, 101, 105, 103, 104, 116, 115]
def sU : D := .str [117, 110, 108, 105, 107, 101]
def dueD (b : Bool) : D := .lst (if b = true then [sW] else [sW, sU])
theorem ev_law_word (k n : Nat) (V V' : Ves) (ss ss' : List Stp) (g : Gs) (h : WayOk n V ss) (h' : WayOk n V' ss') : evF TT (k + 10) i_law_word_k05 [wayD n V ss, wayD n V' ss', .int 0, row n fun _ => 0] g = .ok (dueD (D.eqv (vsD n V) (vsD n V'))) g := by
  rw [evF_s T_law_word_k05, runF_eq rfl]
  show outR (evSs (evF TT (k + 9)) b_law_word_k05 [.p (wayD n V ss), .p (wayD n V' ss'), .p (.int 0), .p (row n fun _ => 0), .u] g) = _
  have n0 := h.n0
  have hz : Rb n 1 (fun _ => (0 : Rat)) := ⟨1, by decide, by decide, fun c hc => ⟨0, by simp, by decide⟩⟩
  have hl : lidB n (Tb V ss) 0 (fun _ => 0) = false := by
    unfold lidB
    rw [decide_eq_true (by decide : (0 : Rat) < 1)]; rfl
  have m : evF TT (k + 9) i_most_by [wayD n V ss, .int 0, row n fun _ => 0, row n fun _ => 0] g = .exc 5 .non g := ev_most_no (k + 2) n 0 1 V ss (fun _ => 0) (fun _ => 0) g h n0 hz (by decide) (fun i hi => ⟨Rat.le_refl, by decide, by decide⟩) hl
  have i0 : isLst (D.lst []) = true := rfl
  have ap : ∀ (ds : List D) (s : D), ds.length ≤ 10 → evS (evF TT (k + 9)) (.app 4 (.lit s)) [.p (wayD n V ss), .p (wayD n V' ss'), .p (.int 0), .p (row n fun _ => 0), .o (.lst ds)] g = .nx [.p (wayD n V ss), .p (wayD n V' ss'), .p (.int 0), .p (row n fun _ => 0), .o (.lst (ds ++ [s]))] g := fun ds s hd => by
    have hb : Nat.blt ds.length lineN = true := blt_line (by omega)
    simp only [evS_app, getS_z, getS_s, appD_o, evE_lit, to_ok, hb, if_true, setS_z, setS_s]
  have p1 := ap [] sW (by decide)
  have p2 := ap [sW] sU (by decide)
  have e1 := fun (env : Env) (p : D) => evH_one (C := evF TT (k + 9)) (env := env) (g := g) 5 p [.app 4 (.lit sW)]
  have e2 := fun (env : Env) (p : D) => evH_one (C := evF TT (k + 9)) (env := env) (g := g) 11 p [.app 4 (.lit sU)]
  have hb : b_law_word_k05 = [.own 4 (.lst []), .try_ [.ex (.call i_most_by [.var 0, .var 2, .var 3, .var 3])] [(5, none, [.app 4 (.lit sW)])],
    .try_ [.ex (.call i_common_lid [.var 0, .var 1, .var 2])] [(11, none, [.app 4 (.lit sU)])], .frz [4], .ret (.var 4)] := rfl
  rw [hb]
  cases e : D.eqv (vsD n V) (vsD n V') with
  | true =>
    have c : evF TT (k + 9) i_common_lid [wayD n V ss, wayD n V' ss', .int 0] g = _ := ev_common_lid (k + 1) n 0 V V' ss ss' g h h' e n0
    simp only [evSs_cons, evSs_nil, evS_own, evS_try, evS_ex, evE_lst, evE_call, evEs_cons, evEs_nil, evE_var, getS_z, getS_s, setS_z, setS_s, slV_p, bind_ok, to_ok, i0, if_true, thenS_nx, m, to_exc, thenS_exc, tryD_exc, e1, p1, noX_nx, c, tryD_nx, evS_frz, frz_one, frzS_s, frzS_z, fr_o, evS_ret, thenS_ret, outR_ret]
    rfl
  | false =>
    have c : evF TT (k + 9) i_common_lid [wayD n V ss, wayD n V' ss', .int 0] g = _ := ev_common_no (k + 1) n 0 V V' ss ss' g h h' e
    simp only [List.nil_append] at p1
    simp only [evSs_cons, evSs_nil, evS_own, evS_try, evS_ex, evE_lst, evE_call, evEs_cons, evEs_nil, evE_var, getS_z, getS_s, setS_z, setS_s, slV_p, bind_ok, to_ok, i0, if_true, thenS_nx, m, to_exc, thenS_exc, tryD_exc, e1, p1, noX_nx, c, e2, p2, evS_frz, frz_one, frzS_s, frzS_z, fr_o, evS_ret, thenS_ret, outR_ret]
    rfl
end Rz
/-! RzG53 -/
set_option linter.all false
set_option maxRecDepth 100000
set_option exponentiation.threshold 20000
namespace Rz
/-! ### the law k05 -/
theorem T_law_k05 : TT i_law_k05 = some d_law_k05 := rfl
theorem dt_rb {n : Nat} {x : Vc} (hx : Dt n x) : Rb n 80 x :=
  ⟨18, by decide, by decide, fun i hi => by
    obtain ⟨z, e⟩ := hx.dr.iz i hi
    have lo := hx.dr.lo i hi
    have hi' := Rat.le_trans (sumN_le hx.dr.lo hi) hx.dr.sum
    refine ⟨z, e, ?_⟩
    have p : (0 : Rat) ≤ ((18 : Nat) : Rat) := by decide
    have a : (0 : Rat) ≤ ((z : Int) : Rat) := by rw [← e]; exact Rat.mul_nonneg lo p
    have b : ((z : Int) : Rat) ≤ ((3 * 10 ^ 20 * 18 : Int) : Rat) := by
      rw [← e]
      have := Rat.mul_le_mul_of_nonneg_right hi' p
      push_cast at this ⊢
      exact Rat.le_trans this (by decide +kernel)
    have a' : 0 ≤ z := by exact_mod_cast a
    have b' : z ≤ 3 * 10 ^ 20 * 18 := Rat.intCast_le_intCast.mp b
    have : (3 * 10 ^ 20 * 18 : Int) ≤ 2 ^ 80 := by decide
    omega⟩
abbrev E5 (m n : Nat) (V : Ves) (ss ss' : List Stp) (x : Vc) (e0 e1 y8 y9 y10 y11 y12 y13 y14 y15 y16 y17 y18 y19 : Sl) : Env := [e0, e1, .p (.mref m), .p (wayD n V ss), .p (wayD n V ss'), .p (row n x), .p (tab n n (Tb V ss)), .p (tab n n (Tb V ss')), y8, y9, y10, y11, y12, y13, y14, y15, y16, y17, y18, y19]
def k05W : List St := [.asg 12 (.call i_law_weights [.var 2, .var 9]),
    .asg 13 (.call i_law_is_lid [.var 6, .var 8, .var 12]), .ite (.and_ (.call i_law_can_go_in [.var 12]) (.op .ne (.call i_is_lid [.var 3, .var 8,
    .var 12]) (.var 13))) [.ret (.lit (.bl false))] []]
theorem k05_weights (m n a : Nat) (V : Ves) (ss ss' : List Stp) (x : Vc) (g : Gs) (hs : Sv g m) (h : WayOk n V ss) (ha : a < n) (e0 e1 y10 y11 y12 y13 y14 y15 y16 y17 y18 y19 : Sl) :
    ∃ z12 z13 g', evSs (evF TT 39) k05W (E5 m n V ss ss' x e0 e1 (.p (.int (a : Int))) (.p (row n (lidV n (Tb V ss) a))) y10 y11 y12 y13 y14 y15 y16 y17 y18 y19) g = .nx (E5 m n V ss ss' x e0 e1 (.p (.int (a : Int))) (.p (row n (lidV n (Tb V ss) a))) y10 y11 z12 z13 y14 y15 y16 y17 y18 y19) g' ∧ Sv g' m := by
  have T := tm_of h
  have n3 := h.n3
  have rb := lid_rb T ha
  have nn := lid_nn T.t ha
  obtain ⟨w, g', q, hw, hs'⟩ := ev_law_weights 36 m n (lidV n (Tb V ss) a) g hs n3 fun i hi => rb.sm (by decide) hi
  have rw' := near_rb rb hw
  have li := ev_law_is_lid 35 n a 110 (Tb V ss) w g' T ha rw' (by decide)
  have cg := ev_can_go_in 38 n w g' (by omega)
  refine ⟨.p (row n w), .p (.bl (lidB n (Tb V ss) a w)), g', ?_, hs'⟩
  cases c : ((List.range n).filter fun a => bigQ (w a)).isEmpty with
  | false =>
    rw [c] at cg
    simp only [k05W, E5, evSs_cons, evSs_nil, evS_asg, evS_ite, evE_and, evE_call, evEs_cons, evEs_nil, evE_var, getS_z, getS_s, setS_z, setS_s, slV_p, bind_ok, q, to_ok, thenS_nx, li, cg, iteD_bl, Bool.false_eq_true, if_false]
  | true =>
    rw [c] at cg
    have il := ev_is_lid 32 n a 110 V ss w g' h ha rw' (by decide) (amt_of c fun i hi => near_nn (nn i hi) (hw i hi))
    have ne : op2 .ne (.bl (lidB n (Tb V ss) a w)) (.bl (lidB n (Tb V ss) a w)) = some (.bl false) := by cases lidB n (Tb V ss) a w <;> rfl
    simp only [k05W, E5, evSs_cons, evSs_nil, evS_asg, evS_ite, evE_and, evE_op, evE_call, evEs_cons, evEs_nil, evE_var, getS_z, getS_s, setS_z, setS_s, slV_p, bind_ok, q, to_ok, thenS_nx, li, cg, iteD_bl, if_true, il, ne, of_some, Bool.false_eq_true, if_false]
def k05A : List St := [.par [(false, 9), (false, 10)] [.call i_law_least [.var 6, .var 8], .call i_law_common [.var 6, .var 7, .var 8]],
    .ite (.or_ (.op .ne (.call i_least_lid [.var 3, .var 8]) (.var 9)) (.op .ne (.call i_common_lid [.var 3, .var 4,
    .var 8]) (.var 10))) [.ret (.lit (.bl false))] [], .ite (.or_ (.not (.call i_law_is_lid [.var 6, .var 8, .var 10])) (.not (.call i_law_is_lid [.var 7, .var 8,
    .var 10]))) [.ret (.lit (.bl false))] [], .for_ (.nm 11) .rng [.lit (.int 4)] k05W, .asg 14 (.call i_law_all [.comp (.call i_law_mul [.var 15, .var 16]) (.tp [(.nm 15),
    (.nm 16)]) .zip [.var 5, .var 10] []]), .ite (.not (.call i_law_kept [.lst [.var 6, .var 7], .var 2, .var 8, .var 5, .var 14])) [.ret (.lit (.bl false))] [],
    .asg 17 (.call i_law_all [.comp (.call i_law_mul [.var 15, .var 16]) (.tp [(.nm 15), (.nm 16)]) .zip [.var 5, .var 9] []]),
    .ite (.and_ (.call i_law_can_go_in [.var 9]) (.op .ne (.call i_most_by [.var 3, .var 8, .var 9, .var 5]) (.var 17))) [.ret (.lit (.bl false))] []]
theorem mul_zip (k n : Nat) (x y : Vc) (g : Gs) (hn : n ≤ 900) (h : SmD n x y) (m : Nat) (V : Ves) (ss ss' : List Stp) (z : Vc) (e0 e1 y8 y9 y10 y11 y12 y13 y14 y17 y18 y19 : Sl) :
    compD (evF TT (k + 2)) (.call i_law_mul [.var 15, .var 16]) (.tp [(.nm 15), (.nm 16)]) [] (E5 m n V ss ss' z e0 e1 y8 y9 y10 y11 y12 y13 y14 .u .u y17 y18 y19) g (some ((List.range n).map fun i => D.tup [fr (x i), fr (y i)])) = .ok (lrow n fun i => x i * y i) g :=
  compD_n (fun i => fr (x i * y i)) (by omega) fun i hi => ⟨E5 m n V ss ss' z e0 e1 y8 y9 y10 y11 y12 y13 y14 (.p (fr (x i))) (.p (fr (y i))) y17 y18 y19, rfl, by
    have m := ev_law_mul k (x i) (y i) g (h.pa i hi) (h.pb i hi)
    simp only [E5, evE_call, evEs_cons, evEs_nil, evE_var, getS_z, getS_s, slV_p, bind_ok, m]⟩
theorem k05_at (m n a : Nat) (V : Ves) (ss ss' : List Stp) (x : Vc) (g : Gs) (hs : Sv g m) (h : WayOk n V ss) (h' : WayOk n V ss') (hx : Dt n x) (ha : a < n) (e0 e1 y9 y10 y11 y12 y13 y14 y17 y18 y19 : Sl) :
    ∃ z9 z10 z11 z12 z13 z14 z17 g', evSs (evF TT 39) k05A (E5 m n V ss ss' x e0 e1 (.p (.int (a : Int))) y9 y10 y11 y12 y13 y14 .u .u y17 y18 y19) g = .nx (E5 m n V ss ss' x e0 e1 (.p (.int (a : Int))) z9 z10 z11 z12 z13 z14 .u .u z17 y18 y19) g' ∧ Sv g' m := by
  have TP := tm_of h
  have TQ := tm_of h'
  have n3 := h.n3
  obtain ⟨W, hW, sh⟩ := way_sh h
  obtain ⟨W', hW', sh'⟩ := way_sh h'
  obtain ⟨r, er, best⟩ := lidM_eq TP.t TQ.t ha
  have Tr := tm_mix TP TQ r
  have l1 := ev_law_least 33 n a (Tb V ss) g TP ha
  have l2 := ev_law_common 32 n a (Tb V ss) (Tb V ss') g TP TQ ha
  have l3 := ev_least_lid 31 n a V ss g h ha
  have l4 := ev_common_lid 31 n a V V ss ss' g h h' (pl_vsD 58 n V).refl ha
  have rb1 := lid_rb TP ha
  have nn1 := lid_nn TP.t ha
  have sup1 := fun i hi => lid_sup TP.t ha (i := i) hi
  have one1 := (lid_ok TP.t ha).1
  have rb2 : Rb n 99 (lidM n (Tb V ss) (Tb V ss') a (polN n)) := (lid_rb Tr ha).congr fun i hi => (er i hi).symm
  have nn2 : ∀ i, i < n → 0 ≤ lidM n (Tb V ss) (Tb V ss') a (polN n) i := fun i hi => by rw [er i hi]; exact lid_nn Tr.t ha i hi
  have one2 : lidM n (Tb V ss) (Tb V ss') a (polN n) a = 1 := by rw [er a ha]; exact (lid_ok Tr.t ha).1
  have supP : ∀ i, i < n → (sumN n fun j => Tb V ss i j * lidM n (Tb V ss) (Tb V ss') a (polN n) j) ≤ lidM n (Tb V ss) (Tb V ss') a (polN n) i := fun i hi => by
    have bs := best_sup TP.t TQ.t ha best false hi
    simp only [Bool.false_eq_true, if_false] at bs
    rw [er i hi, sumN_congr fun j hj => by rw [er j hj]]
    exact bs
  have supQ : ∀ i, i < n → (sumN n fun j => Tb V ss' i j * lidM n (Tb V ss) (Tb V ss') a (polN n) j) ≤ lidM n (Tb V ss) (Tb V ss') a (polN n) i := fun i hi => by
    have bs := best_sup TP.t TQ.t ha best true hi
    simp only [if_true] at bs
    rw [er i hi, sumN_congr fun j hj => by rw [er j hj]]
    exact bs
  have i1 := ev_law_is_lid 35 n a 99 (Tb V ss) (lidM n (Tb V ss) (Tb V ss') a (polN n)) g TP ha rb2 (by decide)
  have i2 := ev_law_is_lid 35 n a 99 (Tb V ss') (lidM n (Tb V ss) (Tb V ss') a (polN n)) g TQ ha rb2 (by decide)
  rw [lidB_of (by rw [one2]; exact Rat.le_refl) supP] at i1
  rw [lidB_of (by rw [one2]; exact Rat.le_refl) supQ] at i2
  have b1 : lidB n (Tb V ss) a (lidV n (Tb V ss) a) = true := lidB_of (by rw [one1]; exact Rat.le_refl) sup1
  have rx := dt_rb hx
  have sd2 := rb_smd rx rb2 (by omega) (by decide)
  have sd1 := rb_smd rx rb1 (by omega) (by decide)
  have sd1' := rb_smd rb1 rx (by omega) (by decide)
  generalize hL : lidV n (Tb V ss) a = L at *
  generalize lidM n (Tb V ss) (Tb V ss') a (polN n) = M at *
  have n1 := ne_self (pl_row 58 n L)
  have n2 := ne_self (pl_row 58 n M)
  have r4 : items .rng [.int 4] = some ((List.range 4).map fun (i : Nat) => D.int (i : Int)) := items_rng (n := 4) (by decide)
  generalize hkw : k05W = bw
  obtain ⟨env2, g2, f2, z11, z12, z13, he2, hs2⟩ := forL_n (t := .nm 11) (f := fun (i : Nat) => D.int (i : Int)) (b := bodyOf (evF TT 39) bw) (env := E5 m n V ss ss' x e0 e1 (.p (.int (a : Int))) (.p (row n L)) (.p (row n M)) y11 y12 y13 y14 .u .u y17 y18 y19) (g := g)
    (fun i en g => ∃ z11 z12 z13, en = E5 m n V ss ss' x e0 e1 (.p (.int (a : Int))) (.p (row n L)) (.p (row n M)) z11 z12 z13 y14 .u .u y17 y18 y19 ∧ Sv g m) 4 (fun i en g hi ⟨z11, z12, z13, he, hs⟩ => by
      subst he
      obtain ⟨w12, w13, g', q, hs'⟩ := k05_weights m n a V ss ss' x g hs h ha e0 e1 (.p (row n M)) (.p (.int (i : Int))) z12 z13 y14 .u .u y17 y18 y19
      rw [hL, hkw] at q
      exact ⟨_, rfl, _, g', .inl (by rw [bodyOf_eq]; exact q), .p (.int (i : Int)), w12, w13, rfl, hs'⟩) ⟨y11, y12, y13, rfl, hs⟩
  subst he2
  have zz2 : items .zip [row n x, row n M] = some ((List.range n).map fun i => D.tup [fr (x i), fr (M i)]) := items_zip (sq_tf _ _) (sq_tf _ _)
  have zz1 : items .zip [row n x, row n L] = some ((List.range n).map fun i => D.tup [fr (x i), fr (L i)]) := items_zip (sq_tf _ _) (sq_tf _ _)
  have c2 := mul_zip 37 n x M g2 (by omega) sd2 m V ss ss' x e0 e1 (.p (.int (a : Int))) (.p (row n L)) (.p (row n M)) z11 z12 z13 y14 y17 y18 y19
  have al2 := ev_law_all 36 n (fun i => x i * M i) (lrow n fun i => x i * M i) g2 (sq_lf _ _) sd2.ps
  obtain ⟨g3, kp, hs3⟩ := ev_law_kept 34 m n a (Tb V ss) (Tb V ss') M x (sumN n fun i => x i * M i) g2 hs2 n3 ha ⟨W, hW, sh⟩ ⟨W', hW', sh'⟩ hx (sd2.ps.sum n (Nat.le_refl n)) nn2 (by rw [one2]; exact Rat.le_refl) supP supQ (by
    rw [sumN_congr (y := fun i => x i * M i) fun i _ => by grind]; exact Rat.le_refl)
  have c1 := mul_zip 37 n x L g3 (by omega) sd1 m V ss ss' x e0 e1 (.p (.int (a : Int))) (.p (row n L)) (.p (row n M)) z11 z12 z13 (.p (fr (sumN n fun i => x i * M i))) y17 y18 y19
  have al1 := ev_law_all 36 n (fun i => x i * L i) (lrow n fun i => x i * L i) g3 (sq_lf _ _) sd1.ps
  have cg := ev_can_go_in 38 n L g3 (by omega)
  refine ⟨.p (row n L), .p (row n M), z11, z12, z13, .p (fr (sumN n fun i => x i * M i)), .p (fr (sumN n fun i => x i * L i)), g3, ?_, hs3⟩
  simp only [E5] at f2 c1 c2
  cases c : ((List.range n).filter fun a => bigQ (L a)).isEmpty with
  | false =>
    rw [c] at cg
    rw [k05A, hkw]
    simp only [E5, evSs_cons, evSs_nil, evS_par, evS_asg, evS_ite, evS_for, evE_and, evE_or, evE_not, evE_op, evE_lst, evE_comp, evE_call, evE_lit, evEs_cons, evEs_nil, evE_var, getS_z, getS_s, setS_z, setS_s, slV_p, bind_ok, l1, l2, parD_ok, setPar_cons, setPar_nil, Bool.false_and, Bool.false_eq_true, if_false, nxO_some, thenS_nx, l3, l4, n1, n2, of_some, to_ok, iteD_bl, i1, i2, notD_bl, Bool.not_true, fork_ok, r4, forD_some, f2, zz2, c2, al2, kp, zz1, c1, al1, cg]
  | true =>
    rw [c] at cg
    have mb := ev_most_by 32 n a 99 V ss L x g3 h ha rb1 (by decide) (amt_of c nn1) b1 hx.amt sd1'
    have es : (sumN n fun i => L i * x i) = sumN n fun i => x i * L i := sumN_congr fun i _ => by grind
    rw [es] at mb
    have n3' := ne_self (pl_fr 59 (sumN n fun i => x i * L i))
    rw [k05A, hkw]
    simp only [E5, evSs_cons, evSs_nil, evS_par, evS_asg, evS_ite, evS_for, evE_and, evE_or, evE_not, evE_op, evE_lst, evE_comp, evE_call, evE_lit, evEs_cons, evEs_nil, evE_var, getS_z, getS_s, setS_z, setS_s, slV_p, bind_ok, l1, l2, parD_ok, setPar_cons, setPar_nil, Bool.false_and, Bool.false_eq_true, if_false, nxO_some, thenS_nx, l3, l4, n1, n2, of_some, to_ok, iteD_bl, i1, i2, notD_bl, Bool.not_true, fork_ok, r4, forD_some, f2, zz2, c2, al2, kp, zz1, c1, al1, cg, if_true, mb, n3']
/-! other vessels -/
def oV (V : Ves) : Ves := ⟨fun i => if i = 0 then 7 else V.room i, fun i => if i = 0 then 2 else V.film i, fun i => if i = 0 then 2 else V.beg i⟩
theorem oV_ok {n : Nat} {V : Ves} (h : ∀ i, i < n → VOk V i) : ∀ i, i < n → VOk (oV V) i := fun i hi => by
  by_cases c : i = 0
  · subst c
    exact ⟨by simp [oV], by simp [oV], by simp [oV], by simp [oV], by simp [oV], by simp [oV]⟩
  · have v := h i hi
    have e1 : (oV V).room i = V.room i := if_neg c
    have e2 : (oV V).film i = V.film i := if_neg c
    have e3 : (oV V).beg i = V.beg i := if_neg c
    obtain ⟨a1, a2, a3, a4, a5, a6⟩ := v
    exact ⟨by rw [e1] at *; assumption, by rw [e1] at *; assumption, by rw [e2] at *; assumption, by rw [e1, e2] at *; assumption, by rw [e2, e3] at *; assumption, by rw [e1, e3] at *; assumption⟩
theorem oV_D (n : Nat) (V : Ves) (h0 : 0 < n) (hn : n ≤ 3) : ∃ d, slD .lo (vsD n V) [.int 1] = some d ∧ op2 .add (.tup [.tup [.int 7, .int 2, .int 2]]) d = some (vsD n (oV V)) := by
  have s := slice_lo ((List.range n).map (encV V)) 1 (by simp; omega)
  refine ⟨_, s, ?_⟩
  rw [op_add_t (by simp; omega)]
  unfold vsD tf
  congr 2
  obtain ⟨k, rfl⟩ : ∃ k, n = k + 1 := ⟨n - 1, by omega⟩
  rw [List.range_succ_eq_map, List.map_cons, List.map_cons, List.drop_succ_cons, List.drop_zero, List.map_map, List.map_map]
  rfl
theorem eqv_comm_vs (n : Nat) (V V' : Ves) : D.eqv (vsD n V) (vsD n V') = D.eqv (vsD n V') (vsD n V) := by
  have e3 : ∀ i, D.eqv (encV V i) (encV V' i) = D.eqv (encV V' i) (encV V i) := fun i => by
    show ((V.room i == V'.room i) && ((V.film i == V'.film i) && ((V.beg i == V'.beg i) && true))) = ((V'.room i == V.room i) && ((V'.film i == V.film i) && ((V'.beg i == V.beg i) && true)))
    have c : ∀ x y : Int, (x == y) = (y == x) := fun x y => by
      rw [Bool.eq_iff_iff, beq_iff_eq, beq_iff_eq]
      exact ⟨Eq.symm, Eq.symm⟩
    rw [c (V.room i), c (V.film i), c (V.beg i)]
  have key : ∀ l : List Nat, D.eqvs (l.map (encV V)) (l.map (encV V')) = D.eqvs (l.map (encV V')) (l.map (encV V)) := fun l => by
    induction l with
    | nil => rfl
    | cons i l ih =>
      show (D.eqv (encV V i) (encV V' i) && D.eqvs _ _) = (D.eqv (encV V' i) (encV V i) && D.eqvs _ _)
      rw [e3, ih]
  exact key _
theorem due_pl (b : Bool) : Pl 60 (dueD b) := pl_lst fun d hd => by
  have sw : Pl 59 sW := pl_str _ _ (by decide)
  have su : Pl 59 sU := pl_str _ _ (by decide)
  cases b with
  | true => rw [List.mem_singleton.mp hd]; exact sw
  | false =>
    simp only [Bool.false_eq_true, if_false, List.mem_cons, List.not_mem_nil, or_false] at hd
    rcases hd with rfl | rfl
    · exact sw
    · exact su
theorem plain_k05 (ns : List Int) : ∃ g', evF TT 40 i_law_k05 [.scr (ns.map D.int)] [] = .ok (.bl true) g' := by
  rw [evF_s T_law_k05, runF_eq rfl]
  show ∃ g', outR (evSs (evF TT 39) b_law_k05 [.p (.scr (ns.map D.int)), .u, .u, .u, .u, .u, .u, .u, .u, .u, .u, .u, .u, .u, .u, .u, .u, .u, .u, .u] []) = _
  obtain ⟨nn, hnn, hrange⟩ := law_range ns 3 9 2 (by decide) (by decide) (by decide)
  generalize hka : k05A = ba
  generalize hbd : ([.cel 2 (.call i_law_sieve [.var 0,
    .var 1]), .asg 3 (.ite (.op .eq (.call i_law_sift [.var 2, .lit (.int 3)]) (.lit (.int 0))) (.call i_law_closed [.var 2]) (.call i_law_way [.var 2,
    .call i_law_vessels [.var 2, .lit (.int 1)]])), .par [(false, 4), (false, 5)] [.call i_law_way [.var 2, .ix (.var 3) (.lit (.int 0))],
    .call i_law_dirt [.var 2, .bi .len [.ix (.var 3) (.lit (.int 0))]]], .par [(false, 6), (false, 7)] [.call i_law_rows [.var 3], .call i_law_rows [.var 4]],
    .for_ (.nm 8) .rng [.bi .len [.var 6]] ba,
    .asg 18 (.call i_law_way [.var 2, .op .add (.tup [.tup [.lit (.int 7), .lit (.int 2),
    .lit (.int 2)]]) (.sl .lo (.ix (.var 3) (.lit (.int 0))) [.lit (.int 1)])]),
    .asg 19 (.ite (.op .eq (.ix (.var 18) (.lit (.int 0))) (.ix (.var 3) (.lit (.int 0)))) (.lst [.lit sW]) (.lst [.lit sW, .lit sU])), .ite (.op .ne (.call i_law_word_k05 [.var 3,
    .var 18, .lit (.int 0), .op .mul (.tup [.tup [.lit (.int 0), .lit (.int 1)]]) (.bi .len [.var 6])]) (.var 19)) [.ret (.lit (.bl false))] []] : List St) = body
  obtain ⟨env', g', f1, y1, y2, y3, y4, y5, y6, y7, y8, y9, y10, y11, y12, y13, y14, y17, y18, y19, he⟩ := forL_n (t := .nm 1) (f := fun (i : Nat) => D.int (i : Int)) (b := bodyOf (evF TT 39) body) (env := [.p (.scr (ns.map D.int)), .u, .u, .u, .u, .u, .u, .u, .u, .u, .u, .u, .u, .u, .u, .u, .u, .u, .u, .u]) (g := [])
    (fun i e g => ∃ y1 y2 y3 y4 y5 y6 y7 y8 y9 y10 y11 y12 y13 y14 y17 y18 y19, e = [.p (.scr (ns.map D.int)), y1, y2, y3, y4, y5, y6, y7, y8, y9, y10, y11, y12, y13, y14, .u, .u, y17, y18, y19]) nn (fun i e g hi ⟨y1, y2, y3, y4, y5, y6, y7, y8, y9, y10, y11, y12, y13, y14, y17, y18, y19, he⟩ => by
      subst he
      obtain ⟨g1, c1, hs1⟩ := ev_new_sieve 38 ns i [.p (.scr (ns.map D.int)), .p (.int (i : Int)), y2, y3, y4, y5, y6, y7, y8, y9, y10, y11, y12, y13, y14, .u, .u, y17, y18, y19] g rfl rfl (by omega)
      generalize g.length = m at c1 hs1
      obtain ⟨n, V, ss, g2, c2, hw, hs2⟩ := ev_drawn0 35 m 2 3 [.p (.scr (ns.map D.int)), .p (.int (i : Int)), .p (.mref m), y3, y4, y5, y6, y7, y8, y9, y10, y11, y12, y13, y14, .u, .u, y17, y18, y19] g1 rfl hs1 (by decide) (by decide)
      have n3 := hw.n3
      have n0 := hw.n0
      obtain ⟨ss', g3, c3, hw', hs3⟩ := ev_law_way 35 m n V g2 hs2 (by omega) n3 hw.vok
      obtain ⟨x, g4, c4, hx, _, hs4⟩ := ev_law_dirt 36 m n g3 hs3 n3
      have c5 := ev_law_rows 35 n V ss g4 hw
      have c6 := ev_law_rows 35 n V ss' g4 hw'
      have hln : bi .len [tab n n (Tb V ss)] = some (.int (n : Int)) := len_tf _ _
      obtain ⟨env2, g5, f2, z8, z9, z10, z11, z12, z13, z14, z17, he2, hs5⟩ := forL_n (t := .nm 8) (f := fun (i : Nat) => D.int (i : Int)) (b := bodyOf (evF TT 39) ba) (env := E5 m n V ss ss' x (.p (.scr (ns.map D.int))) (.p (.int (i : Int))) y8 y9 y10 y11 y12 y13 y14 .u .u y17 y18 y19) (g := g4)
        (fun a e g => ∃ z8 z9 z10 z11 z12 z13 z14 z17, e = E5 m n V ss ss' x (.p (.scr (ns.map D.int))) (.p (.int (i : Int))) z8 z9 z10 z11 z12 z13 z14 .u .u z17 y18 y19 ∧ Sv g m) n (fun a e g ha ⟨z8, z9, z10, z11, z12, z13, z14, z17, he, hs⟩ => by
          subst he
          obtain ⟨w9, w10, w11, w12, w13, w14, w17, g', q, hs'⟩ := k05_at m n a V ss ss' x g hs hw hw' hx ha (.p (.scr (ns.map D.int))) (.p (.int (i : Int))) z9 z10 z11 z12 z13 z14 z17 y18 y19
          rw [hka] at q
          exact ⟨_, rfl, _, g', .inl (by rw [bodyOf_eq]; exact q), .p (.int (a : Int)), w9, w10, w11, w12, w13, w14, w17, rfl, hs'⟩) ⟨y8, y9, y10, y11, y12, y13, y14, y17, rfl, hs4⟩
      subst he2
      obtain ⟨dd, o1, o2⟩ := oV_D n V n0 n3
      obtain ⟨ss2, g6, c7, hw2, hs6⟩ := ev_law_way 35 m n (oV V) g5 hs5 (by omega) n3 (oV_ok hw.vok)
      have eq := eq_pl (pl_vsD 58 n (oV V)) (pl_vsD 58 n V)
      have wd := ev_law_word 29 n V (oV V) ss ss2 g6 hw hw2
      rw [eqv_comm_vs] at wd
      have z := mul_t (.tup [.int 0, .int 1]) n (by omega)
      have ez : (tf n fun _ => D.tup [.int 0, .int 1]) = row n fun _ => 0 := rfl
      rw [ez] at z
      have nd := ne_self (due_pl (D.eqv (vsD n (oV V)) (vsD n V)))
      have e19 : ∀ (b : Bool) (env : Env), (if b = true then evE (evF TT 39) (.lst [.lit sW]) env g6 else evE (evF TT 39) (.lst [.lit sW, .lit sU]) env g6) = .ok (dueD b) g6 := fun b env => by cases b <;> rfl
      refine ⟨_, rfl, _, g6, .inl ?_, .p (.int (i : Int)), .p (.mref m), .p (wayD n V ss), .p (wayD n V ss'), .p (row n x), .p (tab n n (Tb V ss)), .p (tab n n (Tb V ss')), z8, z9, z10, z11, z12, z13, z14, z17, .p (wayD n (oV V) ss2), .p (dueD (D.eqv (vsD n (oV V)) (vsD n V))), rfl⟩
      rw [bodyOf_eq, ← hbd]
      simp only [setS_z, setS_s] at c1 ⊢
      rw [evSs_cons, c1]
      simp only [setS_z, setS_s, thenS_nx]
      rw [evSs_cons, evS_asg]
      have c2' : evE (evF TT 39) (.ite (.op .eq (.call i_law_sift [.var 2, .lit (.int 3)]) (.lit (.int 0))) (.call i_law_closed [.var 2]) (.call i_law_way [.var 2, .call i_law_vessels [.var 2, .lit (.int 1)]])) [.p (.scr (ns.map D.int)), .p (.int (i : Int)), .p (.mref m), y3, y4, y5, y6, y7, y8, y9, y10, y11, y12, y13, y14, .u, .u, y17, y18, y19] g1 = .ok (wayD n V ss) g2 := c2
      rw [c2']
      simp only [E5] at f2
      simp only [to_ok, setS_z, setS_s, thenS_nx, evSs_cons, evSs_nil, evS_par, evS_asg, evS_for, evS_ite, evE_call, evE_op, evE_tup, evE_sl, evE_bi, evE_ix, evE_lit, evE_ite, evEs_cons, evEs_nil, evIs_cons, evIs_nil, toI_int, evE_var, getS_z, getS_s, slV_p, bind_ok, wx0, of_some, lenV, c3, c4, parD_ok, setPar_cons, setPar_nil, Bool.false_and, Bool.false_eq_true, if_false, nxO_some, c5, c6, hln, fork_ok, items_rng (show n ≤ 1000000 by omega), forD_some, f2, o1, o2, c7, eq, iteD_bl, e19, z, wd, nd]) ⟨.u, .u, .u, .u, .u, .u, .u, .u, .u, .u, .u, .u, .u, .u, .u, .u, .u, rfl⟩
  subst he
  refine ⟨g', ?_⟩
  have hk : b_law_k05 = [.for_ (.nm 1) .rng [.bi .max2 [.lit (.int 3), .bi .min2 [.lit (.int 9), .op .add (.bi .len [.var 0]) (.lit (.int 2))]]] body, .ret (.lit (.bl true))] := by
    rw [← hbd, ← hka]; rfl
  rw [hk]
  simp only [evSs_cons, evSs_nil, evS_for, evEs_cons, evEs_nil, evE_bi, evE_op, evE_var, evE_lit, getS_z, getS_s, slV_p, bind_ok, len_scr, of_some, op_add_i, min2_i, hrange, fork_ok, items_rng (show nn ≤ 1000000 by omega), forD_some, f1, thenS_nx, evS_ret, to_ok, thenS_ret, outR_ret]
end Rz
namespace Rz
open PySem PySem.Spec PyProof.Rows L2
def MOST : Nat := 63
def rowLaw : Rw := ⟨122, "law", ["script"], ["script", "k", "sieve", "way_so", "other", "parts", "rows", "others", "at", "least", "both", "turn", "weights_so", "good", "most_so", "part", "more", "told_so", "wrong", "due"], d_law_k05, 93⟩
theorem plain : ∀ ns : List Int, ns.length ≤ MOST → ∃ g', evF (tabOf rows glo cls).T 40 122 [.scr (ns.map D.int)] [] = .ok (.bl true) g' := fun ns _ => plain_k05 ns
theorem facts {w : World} {K : PySem.W.Frag} {h : Heap} {mg : Str → Option Value} {f : Addr} (X : K.In h) (G : h.Ns mainGlobals mg) (hfa : mg ("law" : Str) = some (.ref f)) (c : SaysR faL fnL (exOf glo) K) :
    ∃ fd : FuncData, (∀ (s : Shared) (v : Value), BindsTo s fd ⟨[v], []⟩ [("script", v)]) ∧ ∀ base : Heap, FnOk prog w K mg base L2.CX0 40 f fd ["script"] (spLaw K MOST) := by
  have hr : rowLaw ∈ rows := List.mem_of_getElem? (i := 74) rfl
  obtain ⟨fd, F, ef⟩ := row_fun (P := prog) c.d.1 hr
  have e := hfa.symm.trans (He.glo_ok X G (c.d.1.facts (f := .glo "law") (List.mem_append_left _ (List.mem_map.mpr ⟨rowLaw, hr, rfl⟩))))
  cases e
  refine ⟨fd, fun s v => F.bindsA (ps := ["script"]) (binds.get _ hr) s [v] rfl, fun base => ?_⟩
  have q := law_fn (S := infOf prog w K mg base rows glo cls fd) (facts_of (P := prog) (d0 := fd) X G c chk binds base) (n := 40) (f := 122) (most := MOST) (x := "law") rfl plain
  have e1 : (infOf prog w K mg base rows glo cls fd).fd 122 = fd := by
    show (fdK K (He.ga K "law")).getD fd = fd
    rw [show fdK K (He.ga K "law") = some fd from ef]; rfl
  rw [e1] at q
  exact fnOk_cx q fun _ _ _ _ z => z

end Rz

open PySem PySem.W PySem.Calls PyProof.Rows
theorem PySem.Challenge.cw_anyrinses_k05_whole_lids_of_vessels_holds : PySem.Challenge.rw_anyrinses_k05_whole_lids_of_vessels.Holds := by
  w_on; o_law
  refine HandSHeadRun.head_any (r := OpenLaw.row PySem.Challenge.rw_anyrinses_k05_whole_lids_of_vessels) (q := view (OpenLaw.row PySem.Challenge.rw_anyrinses_k05_whole_lids_of_vessels).prog [93]) (H := Rz.hk) (ob := Rz.ob) (M := 4000) (loose := Rz.loose) (d := HandSHeadRun.topDef (OpenLaw.row PySem.Challenge.rw_anyrinses_k05_whole_lids_of_vessels).prog 93) (kwd := []) Rz.ob_eq
    (by kernel_rfl) (fun s => by kernel_rfl) Rz.run (by kernel_rfl) (by kernel_rfl) (by kernel_rfl) (by rfl) (by first | assumption | decide +kernel) (by decide +kernel) ⟨rfl, rfl, rfl, rfl, rfl, by decide +kernel⟩ ?hw ?hc
  case hw => w_witness2
  case hc =>
    refine L2.walk_ofE (l := PySem.Challenge.rw_anyrinses_k05_whole_lids_of_vessels) (n := Rz.MOST) (k := 40) (x := "script") (CX := L2.CX0) rfl (by decide) (by kernel_rfl) ⟨rfl, by decide, by decide⟩ ?F (fun _ _ _ _ z => z)
    intro w mg fa h Y G hmg0
    obtain ⟨K, KX, c⟩ := Y
    have hmg : mg ("law" : PySem.Str) = some (.ref fa) := by
      have e : (HandSHeadRun.topDef (OpenLaw.row PySem.Challenge.rw_anyrinses_k05_whole_lids_of_vessels).prog 93).name = ("law" : PySem.Str) := by kernel_rfl
      rw [← e]
      exact hmg0
    obtain ⟨fd, hb, hF⟩ := Rz.facts (w := w) KX G hmg c
    exact ⟨K, fd, Rz.spLaw K Rz.MOST, KX, hb, fun H a ns hl ho hS => ⟨a, ns, rfl, hl, ho, hS, fun _ _ e => e⟩, fun base _ _ => hF base⟩
