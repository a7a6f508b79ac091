import PyProof.Rows.All
import HandS.ForMost
import HandS.Deep
import HandS.TupAny
import HandS.TupLe
import HandS.Conv
import HandS.DictTup
import HandS.IsInst
import HandS.SortOrd
import HandS.Zip
import HandS.TupMul
import HandS.TupLen
import HandS.Style
import HandS.Star
import KE.SortData
import KE.DataMinMax
import PyProof.ReprRoads
import HandS.WideBits
import KE.KDictCopyH
import KE.KDictSum
import KE.KDictPairs
import KE.KDictZip
import HandS.Iter
import HandS.NoneIn
import HandS.SetFor
import KE.GoesMore
import PyProof.EnumMake
import PyProof.Draws
import HandS.Words
import PyProof.ReprLen
import PyProof.ReprReads
import PySem.Challenge.RW_linkedlots_k15_whole_systems_and_papers
set_option Elab.async false
set_option linter.all false
set_option maxRecDepth 100000
set_option maxHeartbeats 8000000
/-! L1: a small tree language (the part of Python that the laws use), and what its terms give: a total function on data trees. -/
namespace Mp
open PySem

abbrev D := PyData

/-! ### the drawing source -/
structure Src where
  cells : List Int
  left : Int
  mixed : Int
  turn : Int

/-- what is left behind the first loop of the drawing -/
def feed (cells : List Int) (left : Int) : Nat → List Int × Int
  | 0 => (cells, left)
  | n + 1 => if left < 2 ∧ cells ≠ [] then feed cells.dropLast (cells.getLastD 0) n else (cells, left)

def pick (s : Src) (m : Int) : Int × Src :=
  let p := if 1 < m then feed s.cells s.left s.cells.length else (s.cells, s.left)
  if m < 2 ∨ 1 < p.2 then (p.2 % max 1 m, { s with cells := p.1, left := p.2 / max 1 m })
  else
    let t := s.turn + 1
    let a := (s.mixed + t * 104729) % 998244353
    let b := (a * a + t * 17) % 2147483647
    (b / 16 % m, { cells := p.1, left := p.2, mixed := b, turn := t })

def srcOf (script : List Int) : Src :=
  { cells := (script.map fun c => if c < 0 then -c else c).reverse, left := 1,
    mixed := script.foldl (fun m c => (m * 69069 + c * 31 + 5) % 2147483629) 11, turn := 0 }

/-! ### computations -/
abbrev M (α : Type) := Src → Option (α × Src)
@[inline] def ret {α : Type} (a : α) : M α := fun s => some (a, s)
@[inline] def bnd {α β : Type} (x : M α) (f : α → M β) : M β := fun s =>
  match x s with
  | none => none
  | some (a, s') => f a s'
@[inline] def lft {α : Type} (o : Option α) : M α := fun s =>
  match o with
  | none => none
  | some a => some (a, s)
def stuck {α : Type} : M α := fun _ => none

/-! ### operations on trees -/
inductive BOp | add | sub | mul | fdiv | mod | shl | xor | pow
  deriving DecidableEq
inductive COp | eq | ne | lt | le | gt | ge | isin | notin
  deriving DecidableEq
inductive Ty | int | bool | tuple | list | str | dict
  deriving DecidableEq
inductive Bf | len | sorted | tuple | list | dict | sum | min1 | max1 | min2 | max2 | abs | int | all | repr
  deriving DecidableEq
inductive Me | get | index | count
  deriving DecidableEq

def lim : Nat := 16777216

def isTupKey : D → Bool
  | .tuple _ => true
  | _ => false
def flatKey : D → Bool
  | .int _ => true
  | .str _ => true
  | _ => false
def keyOk : D → Bool
  | .tuple ks => ks.all flatKey
  | d => flatKey d
/-- a key that goes with a dict's keys -/
def keyFits (kvs : List (D × D)) (k : D) : Bool := keyOk k && kvs.all fun p => isTupKey p.1 == isTupKey k
def dget (kvs : List (D × D)) (k : D) : Option D := (kvs.find? fun p => p.1.eqv k).map (·.2)
def dhas (kvs : List (D × D)) (k : D) : Bool := kvs.any fun p => p.1.eqv k
def dput (kvs : List (D × D)) (k v : D) : List (D × D) :=
  if dhas kvs k then kvs.map fun p => if p.1.eqv k then (p.1, v) else p else kvs ++ [(k, v)]
def ddrop (kvs : List (D × D)) (k : D) : List (D × D) := kvs.filter fun p => !p.1.eqv k

def shp (d : D) : Bool := SeqAt.shaped d

def small (i : Int) : Bool := decide (-(2 ^ 64) < i ∧ i < 2 ^ 64)

def bop : BOp → D → D → Option D
  | .add, .int i, .int j => some (.int (i + j))
  | .sub, .int i, .int j => some (.int (i - j))
  | .mul, .int i, .int j => if small i || small j then some (.int (i * j)) else none
  | .fdiv, .int i, .int j => if 0 < j ∧ j < 1073741824 then some (.int (i / j)) else none
  | .mod, .int i, .int j => if 0 < j then some (.int (i % j)) else none
  | .shl, .int i, .int j => if i = 1 ∧ 0 ≤ j ∧ j ≤ 134217727 then some (.int (2 ^ j.toNat)) else none
  | .xor, .int i, .int j => some (.int (Builtin.bitXor i j))
  | .pow, .int i, .int j => if 0 ≤ j ∧ j ≤ 1000000 ∧ i.natAbs < 2 ^ 64 then some (.int (i ^ j.toNat)) else none
  | .add, .tuple xs, .tuple ys => if xs.length + ys.length ≤ lim then some (.tuple (xs ++ ys)) else none
  | .add, .list xs, .list ys => if xs.length + ys.length ≤ lim then some (.list (xs ++ ys)) else none
  | .mul, .list xs, .int k => if -(2 ^ 63) ≤ k ∧ k < 2 ^ 63 ∧ xs.length * k.toNat ≤ lim then some (.list (List.replicate k.toNat xs).flatten) else none
  | _, _, _ => none

def asInts : List D → Option (List Int)
  | [] => some []
  | .int i :: r => (asInts r).map (i :: ·)
  | _ :: _ => none

def allAlike (ds : List D) : Bool := ds.all fun a => ds.all fun b => PySem.W.alike a b
/-- the order of a sort -/
def leD (a b : D) : Bool := !PySem.W.dataLt b a
def sortD (ds : List D) : Option (List D) :=
  if allAlike ds && ds.all (fun d => decide (d.depth ≤ 60)) && ds.all (fun d => match d with | .none => false | _ => true) && decide (ds.length ≤ lim) then some (ds.mergeSort leD) else none

/-- the least of alike tuples -/
def minRows : List D → Option D
  | [] => none
  | x :: r => if allAlike (x :: r) && (x :: r).all (fun d => decide (d.depth ≤ 60) && (match d with | .tuple _ => true | _ => false)) then some (PySem.W.minD x r) else none

def inSeq (x : D) (ds : List D) : Option Bool := if shp x && shp (.list ds) then some (ds.any fun z => z.eqv x) else none

def lexLe : List Int → List Int → Bool
  | [], _ => true
  | _ :: _, [] => false
  | a :: r, b :: s => if a = b then lexLe r s else decide (a ≤ b)

def cop : COp → D → D → Option Bool
  | .eq, a, b => if shp a && shp b then some (a.eqv b) else none
  | .ne, a, b => if shp a && shp b then some (!a.eqv b) else none
  | .lt, .int i, .int j => some (decide (i < j))
  | .le, .int i, .int j => some (decide (i ≤ j))
  | .gt, .int i, .int j => some (decide (j < i))
  | .ge, .int i, .int j => some (decide (j ≤ i))
  | .le, .tuple xs, .tuple ys => match asInts xs, asInts ys with
    | some ns, some ms => some (lexLe ns ms)
    | _, _ => none
  | .isin, x, .list ds => inSeq x ds
  | .isin, x, .tuple ds => inSeq x ds
  | .isin, x, .dict kvs => if keyFits kvs x then some (dhas kvs x) else none
  | .notin, x, .list ds => (inSeq x ds).map (!·)
  | .notin, x, .tuple ds => (inSeq x ds).map (!·)
  | .notin, x, .dict kvs => if keyFits kvs x then some (!dhas kvs x) else none
  | _, _, _ => none

def ixNat (n : Nat) (i : Int) : Option Nat :=
  if 0 ≤ i then (if i < n then some i.toNat else none) else if -(n : Int) ≤ i then some (i + n).toNat else none
def itemAt : D → D → Option D
  | .list xs, .int i => (ixNat xs.length i).bind fun j => xs[j]?
  | .tuple xs, .int i => (ixNat xs.length i).bind fun j => xs[j]?
  | .dict kvs, k => if keyFits kvs k then dget kvs k else none
  | _, _ => none

/-- a slice's bound in a row of n -/
def cutIx (n : Nat) (d : Nat) : Option Int → Nat
  | none => d
  | some i => if i < 0 then (i + n).toNat else min i.toNat n
def cutD {α : Type} (xs : List α) (lo hi : Option Int) : List α := (xs.drop (cutIx xs.length 0 lo)).take (cutIx xs.length xs.length hi - cutIx xs.length 0 lo)
def sliceD : D → Option Int → Option Int → Option D
  | .list xs, lo, hi => some (.list (cutD xs lo hi))
  | .tuple xs, lo, hi => some (.tuple (cutD xs lo hi))
  | _, _, _ => none
def revD : D → Option D
  | .list xs => some (.list xs.reverse)
  | .tuple xs => some (.tuple xs.reverse)
  | _ => none

def isTy : Ty → D → Bool
  | .int, .int _ => true
  | .int, .bool _ => true
  | .bool, .bool _ => true
  | .tuple, .tuple _ => true
  | .list, .list _ => true
  | .str, .str _ => true
  | .dict, .dict _ => true
  | _, _ => false

def minI : List Int → Option Int
  | [] => none
  | x :: r => some (r.foldl (fun a b => if b < a then b else a) x)
def maxI : List Int → Option Int
  | [] => none
  | x :: r => some (r.foldl (fun a b => if a < b then b else a) x)

/-- pairs told as tuples of two -/
def asPairs : List D → Option (List (D × D))
  | [] => some []
  | .tuple [a, b] :: r => (asPairs r).map ((a, b) :: ·)
  | _ :: _ => none
def dputs (kvs : List (D × D)) : List (D × D) → Option (List (D × D))
  | [] => some kvs
  | (k, v) :: r => if keyFits kvs k && decide (kvs.length < lim) then dputs (dput kvs k v) r else none

/-- the hash of a row of numbers, as a dict's key -/
def thash (ns : List Int) : Int := reduceHash (Builtin.Tuple.tupleHashOf (ns.map hashInt))
def rowOf : D → Option (List Int)
  | .tuple ds => asInts ds
  | _ => none
def rowsOf : List (D × D) → Option (List (List Int))
  | [] => some []
  | p :: r => (rowOf p.1).bind fun ns => (rowsOf r).map (ns :: ·)
/-- keys that are rows of numbers, no two of one hash -/
def hashOk (kvs : List (D × D)) : Bool := match rowsOf kvs with
  | some nss => decide (nss.map thash).Nodup
  | none => false
/-- what one walks of a value -/
def walkD : D → Option (List D)
  | .list xs => some xs
  | .tuple xs => some xs
  | .dict kvs => some (kvs.map (·.1))
  | _ => none

def asBools : List D → Option (List Bool)
  | [] => some []
  | .bool i :: r => (asBools r).map (i :: ·)
  | _ :: _ => none

mutual
/-- a list is in it -/
def hasL : D → Bool
  | .list _ => true
  | .tuple xs => hasLAll xs
  | .dict kvs => hasLKv kvs
  | _ => false
def hasLAll : List D → Bool
  | [] => false
  | d :: r => hasL d || hasLAll r
def hasLKv : List (D × D) → Bool
  | [] => false
  | (_, d) :: r => hasL d || hasLKv r
end

def bf : Bf → List D → Option D
  | .len, [.list xs] => some (.int xs.length)
  | .len, [.tuple xs] => some (.int xs.length)
  | .len, [.dict kvs] => some (.int kvs.length)
  | .sorted, [d] => (walkD d).bind fun xs => (sortD xs).map .list
  | .tuple, [.list xs] => some (.tuple xs)
  | .tuple, [.tuple xs] => some (.tuple xs)
  | .list, [.list xs] => some (.list xs)
  | .list, [.tuple xs] => some (.list xs)
  | .list, [.dict kvs] => some (.list (kvs.map (·.1)))
  | .dict, [.dict kvs] => if (kvs.all (fun p => !isTupKey p.1) || hashOk kvs) && !kvs.isEmpty then some (.dict kvs) else none
  | .dict, [.list ps] => (asPairs ps).bind fun kvs => (dputs [] kvs).map .dict
  | .sum, [.list xs] => (asInts xs).map fun ns => .int ns.sum
  | .min1, [.list xs] => match asInts xs with
    | some ns => (minI ns).map .int
    | none => minRows xs
  | .max1, [.list xs] => ((asInts xs).bind maxI).map .int
  | .min2, [.int i, .int j] => some (.int (if j < i then j else i))
  | .max2, [.int i, .int j] => some (.int (if j > i then j else i))
  | .abs, [.int i] => some (.int (if i < 0 then -i else i))
  | .int, [.int i] => some (.int i)
  | .int, [.bool b] => some (.int (if b then 1 else 0))
  | .all, [.list xs] => (asBools xs).map fun bs => .bool (bs.all id)
  | .repr, [d] => if d.showable && decide (d.depth ≤ 60) && decide (d.shown.length ≤ lim) && !(d.hasDict && hasL d) then some (.str d.shown) else none
  | _, _ => none

def me : Me → D → List D → Option D
  | .get, .dict kvs, [k, z] => if keyFits kvs k then some ((dget kvs k).getD z) else none
  | .index, .list xs, [x] => if shp x && shp (.list xs) then (xs.findIdx? fun z => z.eqv x).map fun j => .int j else none
  | .index, .tuple xs, [x] => if shp x && shp (.list xs) then (xs.findIdx? fun z => z.eqv x).map fun j => .int j else none
  | .count, .list xs, [.int x] => (asInts xs).map fun ns => .int (ns.count x)
  | _, _, _ => none

def flatD : D → Bool
  | .none => true
  | .bool _ => true
  | .int _ => true
  | .str _ => true
  | _ => false
/-- index and count -/
def me1D : Me → D → D → Option D
  | .index, .list xs, y => if flatD y && xs.all flatD then (xs.findIdx? fun z => z.eqv y).map fun (j : Nat) => .int (j : Int) else none
  | .count, .list xs, .int y => (asInts xs).map fun ns => .int (ns.count y)
  | _, _, _ => none
/-- how many unlike numbers a list has -/
def nsetD : D → Option D
  | .list xs => (asInts xs).bind fun ns => if ns.length ≤ 4000 then some (.int (PyProof.Rows.firstMet (fun i => ns.getD i 0) ns.length).length) else none
  | _ => none
def minvD : D → Option D
  | .dict kvs => ((asInts (kvs.map (·.2))).bind minI).map .int
  | _ => none
/-! ### terms -/
inductive T
  | name (i : Nat)
  | tup (ts : List T)

mutual
inductive E
  | var (i : Nat)
  | int (i : Int)
  | bool (b : Bool)
  | none
  | str (x : Str)
  | tup (es : Es)
  | lst (es : Es)
  | dict0
  | dict1 (k v : E)
  | bin (o : BOp) (a b : E)
  | neg (a : E)
  | not_ (a : E)
  | and_ (a b : E)
  | or_ (a b : E)
  | cmp (o : COp) (a b : E)
  | chain (o o' : COp) (a b c : E)
  | isNone (a : E)
  | notNone (a : E)
  | isB (a : E) (b : Bool)
  | notB (a : E) (b : Bool)
  | ite (c a b : E)
  | idx (a i : E)
  | slice (a : E) (lo hi : Option E)
  | rev (a : E)
  | rg1 (tup : Bool) (a : E)
  | rg2 (tup : Bool) (a b : E)
  | isinst (t : Ty) (a : E)
  | bf (f : Bf) (es : Es)
  | me (m : Me) (o : E) (es : Es)
  | call (f : String) (src : Option Nat) (es : Es)
  | comp (elt : E) (t : T) (it : I) (cond : E) (own : List Nat)
  | me1 (m : Me) (o x : E)
  | nset (x : E)
  | minv (x : E)
inductive Es
  | nil
  | cons (e : E) (r : Es)
  | star (e : E) (r : Es)
inductive I
  | over (e : E)
  | range1 (a : E)
  | range2 (a b : E)
  | range3 (a b c : E)
  | enum (e : E)
  | zip2 (strict : Bool) (a b : E)
  | zip3 (strict : Bool) (a b c : E)
  | items (i : Nat)
  | values (i : Nat)
end

inductive Mu | append | extend | update | remove
  deriving DecidableEq

mutual
inductive S
  | pass
  | assign (i : Nat) (own : Bool) (e : E)
  | assigns (is : List (Nat × Bool)) (es : Es)
  | unpack (t : T) (e : E)
  | pop (t : Option Nat) (x : Nat) (at_ : Option E)
  | dpop (x : Nat) (k : E)
  | mut (m : Mu) (x : Nat) (e : E)
  | appPop (x y : Nat) (at_ : E)
  | setItem (x : Nat) (k v : E)
  | aug (o : BOp) (i : Nat) (e : E)
  | source (i k : Nat)
  | freeze (i : Nat)
  | if_ (c : E) (a b : Ss)
  | for_ (t : T) (it : I) (keep : List Nat) (body : Ss)
  | while_ (c : E) (keep : List Nat) (body : Ss)
  | ret (e : E)
inductive Ss
  | nil
  | cons (s : S) (r : Ss)
end

structure Fn where
  names : List String
  arity : Nat
  src : Bool
  body : Ss

/-! ### what they give -/
inductive Slot
  | no
  | frz (d : D)
  | own (d : D)
  | src
abbrev Ev := List Slot

/-- a slot read; b: where nothing keeps what is read -/
def rdSlot (b : Bool) (σ : Ev) (i : Nat) : Option D :=
  match σ[i]? with
  | some (.frz d) => some d
  | some (.own d) => if b then some d else none
  | _ => none

def isSrc (σ : Ev) (i : Nat) : Bool :=
  match σ[i]? with
  | some .src => true
  | _ => false

mutual
def bindT : T → D → Ev → Option Ev
  | .name i, d, σ => some (σ.set i (.frz d))
  | .tup ts, .tuple ds, σ => bindTs ts ds σ
  | .tup ts, .list ds, σ => bindTs ts ds σ
  | _, _, _ => none
def bindTs : List T → List D → Ev → Option Ev
  | [], [], σ => some σ
  | t :: ts, d :: ds, σ => (bindT t d σ).bind fun σ' => bindTs ts ds σ'
  | _, _, _ => none
end

def enumFrom (k : Nat) : List D → List D
  | [] => []
  | d :: r => .tuple [.int k, d] :: enumFrom (k + 1) r
def zipD : List D → List D → List D
  | a :: r, b :: s => .tuple [a, b] :: zipD r s
  | _, _ => []
def zipD3 : List D → List D → List D → List D
  | a :: r, b :: s, c :: t => .tuple [a, b, c] :: zipD3 r s t
  | _, _, _ => []
def seqD : D → Option (List D)
  | .list xs => some xs
  | .tuple xs => some xs
  | _ => none
def rangeD (lo hi : Int) : List D := (List.range (hi - lo).toNat).map fun (k : Nat) => .int (lo + k)
def rangeOk (i : Int) : Bool := decide (-(2 ^ 62) ≤ i ∧ i < 2 ^ 62)

def asBool : D → Option Bool
  | .bool b => some b
  | _ => none

/-- the loop of a comprehension -/
def compLoop (f : D → M (Option D)) : List D → List D → M (List D)
  | [], acc => ret acc
  | d :: r, acc => bnd (f d) fun o => match o with
    | none => compLoop f r acc
    | some x => if acc.length < lim then compLoop f r (acc ++ [x]) else stuck

mutual
/-- no list, no dict in it -/
def isPure : D → Bool
  | .list _ => false
  | .dict _ => false
  | .tuple xs => isPureAll xs
  | _ => true
def isPureAll : List D → Bool
  | [] => true
  | d :: r => isPure d && isPureAll r
end

def noDict : D → Bool
  | .dict _ => false
  | _ => true
abbrev Call := String → Bool → List D → M D

/-- the block's own slots forgotten -/
def wipeE (σ : Ev) : List Nat → Ev
  | [] => σ
  | v :: vs => (wipeE σ vs).set v .no

/-- whether an argument list reads an owned slot as it is -/
def borrows (σ : Ev) : Es → Bool
  | .nil => false
  | .cons (.var i) r => (match σ[i]? with | some (.own _) => true | _ => false) || borrows σ r
  | .cons _ r => borrows σ r
  | .star _ r => borrows σ r

def isNoneD : D → Bool
  | .none => true
  | _ => false
def isVar : E → Bool
  | .var _ => true
  | _ => false
def srcAt (σ : Ev) : Option Nat → Bool
  | none => true
  | some k => isSrc σ k

mutual
def ev (call : Call) (b : Bool) : E → Ev → M D
  | .var i, σ => lft (rdSlot b σ i)
  | .int i, _ => ret (.int i)
  | .bool b, _ => ret (.bool b)
  | .none, _ => ret .none
  | .str x, _ => ret (.str x)
  | .tup es, σ => bnd (evs call false es σ) fun ds => if ds.length ≤ lim then ret (.tuple ds) else stuck
  | .lst es, σ => bnd (evs call false es σ) fun ds => if ds.length ≤ lim then ret (.list ds) else stuck
  | .dict0, _ => ret (.dict [])
  | .dict1 k v, σ => bnd (ev call false k σ) fun kd => bnd (ev call false v σ) fun vd => if keyOk kd then ret (.dict [(kd, vd)]) else stuck
  | .bin o x y, σ => bnd (ev call true x σ) fun dx => bnd (ev call true y σ) fun dy => lft (bop o dx dy)
  | .neg x, σ => bnd (ev call false x σ) fun d => match d with | .int i => ret (.int (-i)) | _ => stuck
  | .not_ x, σ => bnd (ev call false x σ) fun d => match d with | .bool c => ret (.bool (!c)) | _ => stuck
  | .and_ x y, σ => bnd (ev call false x σ) fun d => match d with | .bool c => if c then bnd (ev call false y σ) (fun d' => match d' with | .bool c' => ret (.bool c') | _ => stuck) else ret (.bool false) | _ => stuck
  | .or_ x y, σ => bnd (ev call false x σ) fun d => match d with | .bool c => if c then ret (.bool true) else bnd (ev call false y σ) (fun d' => match d' with | .bool c' => ret (.bool c') | _ => stuck) | _ => stuck
  | .cmp o x y, σ => bnd (ev call true x σ) fun dx => bnd (ev call true y σ) fun dy => bnd (lft (cop o dx dy)) fun c => ret (.bool c)
  | .chain o o' x y z, σ => bnd (ev call false x σ) fun dx => bnd (ev call false y σ) fun dy => bnd (lft (cop o dx dy)) fun c =>
      if c then bnd (ev call false z σ) fun dz => bnd (lft (cop o' dy dz)) fun c' => ret (.bool c') else ret (.bool false)
  | .isNone x, σ => bnd (ev call true x σ) fun d => ret (.bool (isNoneD d))
  | .notNone x, σ => bnd (ev call true x σ) fun d => ret (.bool (!isNoneD d))
  | .isB x b, σ => bnd (ev call false x σ) fun d => match d with | .bool c => ret (.bool (decide (c = b))) | _ => stuck
  | .notB x b, σ => bnd (ev call false x σ) fun d => match d with | .bool c => ret (.bool (!decide (c = b))) | _ => stuck
  | .ite c x y, σ => bnd (ev call false c σ) fun d => match d with | .bool c => if c then ev call false x σ else ev call false y σ | _ => stuck
  | .idx x i, σ => bnd (ev call true x σ) fun d => bnd (ev call false i σ) fun k => lft (itemAt d k)
  | .slice x lo hi, σ => bnd (ev call true x σ) fun d => bnd (evCut call lo σ) fun l => bnd (evCut call hi σ) fun h => lft (sliceD d l h)
  | .rev x, σ => bnd (ev call true x σ) fun d => lft (revD d)
  | .rg1 tp x, σ => bnd (ev call false x σ) fun d => match d with | .int i => if rangeOk i && decide (i.toNat ≤ lim) then ret (if tp then .tuple (rangeD 0 i) else .list (rangeD 0 i)) else stuck | _ => stuck
  | .rg2 tp x y, σ => bnd (ev call false x σ) fun d => bnd (ev call false y σ) fun d' => match d, d' with | .int i, .int j => if rangeOk i && rangeOk j && decide ((j - i).toNat ≤ lim) then ret (if tp then .tuple (rangeD i j) else .list (rangeD i j)) else stuck | _, _ => stuck
  | .isinst t x, σ => bnd (ev call true x σ) fun d => ret (.bool (isTy t d))
  | .bf f es, σ => bnd (evs call (f != .repr) es σ) fun ds => lft (bf f ds)
  | .me m o es, σ => bnd (ev call true o σ) fun d => bnd (evs call false es σ) fun ds => lft (me m d ds)
  | .call f k es, σ => bnd (evs call (borrows σ es) es σ) fun ds => if srcAt σ k then bnd (call f k.isSome ds) (fun d => if borrows σ es && !(isPure d || (ds.all noDict && !hasL d)) then stuck else ret d) else stuck
  | .comp elt t it c own, σ => bnd (evI call true it σ) fun ds => bnd (compLoop (fun d => bnd (lft (bindT t d (wipeE σ own))) fun σ' =>
      bnd (ev call false c σ') fun cd => match cd with
        | .bool ok => if ok then bnd (ev call false elt σ') fun x => ret (some x) else ret Option.none
        | _ => stuck) ds []) fun xs => ret (.list xs)
  | .me1 m o x, σ => bnd (ev call true o σ) fun d => bnd (ev call false x σ) fun y => lft (me1D m d y)
  | .nset x, σ => bnd (ev call true x σ) fun d => lft (nsetD d)
  | .minv x, σ => bnd (ev call true x σ) fun d => lft (minvD d)
def evCut (call : Call) : Option E → Ev → M (Option Int)
  | .none, _ => ret Option.none
  | .some e, σ => bnd (ev call false e σ) fun d => match d with | .int i => ret (some i) | _ => stuck
def evs (call : Call) (b : Bool) : Es → Ev → M (List D)
  | .nil, _ => ret []
  | .cons e r, σ => bnd (ev call b e σ) fun d => bnd (evs call b r σ) fun ds => ret (d :: ds)
  | .star e r, σ => bnd (ev call true e σ) fun d => bnd (lft (seqD d)) fun xs => bnd (evs call b r σ) fun ds => ret (xs ++ ds)
def evI (call : Call) (b : Bool) : I → Ev → M (List D)
  | .over e, σ => bnd (ev call b e σ) fun d => match d with
    | .dict kvs => if isVar e then ret (kvs.map (·.1)) else stuck
    | d => lft (seqD d)
  | .range1 a, σ => bnd (ev call false a σ) fun d => match d with | .int i => if rangeOk i then ret (rangeD 0 i) else stuck | _ => stuck
  | .range2 a c, σ => bnd (ev call false a σ) fun d => bnd (ev call false c σ) fun d' => match d, d' with | .int i, .int j => if rangeOk i && rangeOk j then ret (rangeD i j) else stuck | _, _ => stuck
  | .range3 _ _ _, _ => stuck
  | .enum e, σ => bnd (ev call b e σ) fun d => match d with | .list xs => ret (enumFrom 0 xs) | .tuple xs => ret (enumFrom 0 xs) | _ => stuck
  | .zip2 st x y, σ => if st then stuck else bnd (ev call b x σ) fun d => bnd (ev call b y σ) fun d' => match d, d' with
    | .list xs, .list ys => ret (zipD xs ys)
    | .tuple xs, .tuple ys => ret (zipD xs ys)
    | _, _ => stuck
  | .zip3 _ _ _ _, _ => stuck
  | .items i, σ => bnd (lft (rdSlot b σ i)) fun d => match d with | .dict kvs => if kvs.all (fun p => !isTupKey p.1) then ret (kvs.map fun p => .tuple [p.1, p.2]) else stuck | _ => stuck
  | .values i, σ => bnd (lft (rdSlot b σ i)) fun d => match d with | .dict kvs => if kvs.all (fun p => !isTupKey p.1) then ret (kvs.map (·.2)) else stuck | _ => stuck
end

def lockVar : I → Option Nat
  | .over (.var i) => some i
  | .items i => some i
  | .values i => some i
  | _ => none
/-- an owned dict would be walked -/
def wantsLock (it : I) (σ : Ev) : Bool := match lockVar it with
  | some i => (match σ[i]? with | some (.own (.dict _)) => true | _ => false)
  | none => false

/-- what the names at keep hold; the others are forgotten -/
def keepE (keep : List Nat) (σ : Ev) : Ev := σ.mapIdx fun i v => if keep.contains i then v else .no

inductive Fl
  | next (σ : Ev)
  | ret (d : D)

def isSeqOrDict : D → Bool
  | .list _ => true
  | .dict _ => true
  | _ => false
def asg (σ : Ev) (i : Nat) (own : Bool) (d : D) : Option Ev :=
  if own then (if isSeqOrDict d then some (σ.set i (.own d)) else none) else some (σ.set i (.frz d))

def forLoop (f : D → Ev → M Fl) : List D → Ev → M Fl
  | [], σ => ret (.next σ)
  | d :: r, σ => bnd (f d σ) fun fl => match fl with
    | .next σ' => forLoop f r σ'
    | .ret x => ret (.ret x)
def whileLoop (f : Ev → M (Option Fl)) : Nat → Ev → M Fl
  | 0, _ => stuck
  | n + 1, σ => bnd (f σ) fun o => match o with
    | none => ret (.next σ)
    | some (.next σ') => whileLoop f n σ'
    | some (.ret x) => ret (.ret x)

def muD : Mu → D → D → Option D
  | .append, .list xs, d => if xs.length < lim then some (.list (xs ++ [d])) else none
  | .extend, .list xs, .list ys => if xs.length + ys.length ≤ lim then some (.list (xs ++ ys)) else none
  | .update, .dict kvs, .dict more => if (!kvs.isEmpty || more.all (fun p => !isTupKey p.1) || hashOk more) && decide (kvs.length + more.length ≤ lim) then (dputs kvs more).map .dict else none
  | .remove, .list xs, .int k => (asInts xs).bind fun ns => if ns.contains k then some (.list ((ns.erase k).map .int)) else none
  | _, _, _ => none
def popD (xs : List D) : Option Int → Option (D × List D)
  | none => (xs.getLast?).map fun y => (y, xs.dropLast)
  | some i => if rangeOk i then (ixNat xs.length i).bind fun j => (xs[j]?).map fun y => (y, xs.eraseIdx j) else none

def ownAt (σ : Ev) (i : Nat) : Option D :=
  match σ[i]? with
  | some (.own d) => some d
  | _ => none

def assignAll : List (Nat × Bool) → List D → Ev → Option Ev
  | [], [], σ => some σ
  | (i, o) :: is, d :: ds, σ => (asg σ i o d).bind fun σ' => assignAll is ds σ'
  | _, _, _ => none

mutual
def exec (call : Call) (fuel : Nat) : S → Ev → M Fl
  | .pass, σ => ret (.next σ)
  | .assign i o e, σ => bnd (ev call false e σ) fun d => bnd (lft (asg σ i o d)) fun σ' => ret (.next σ')
  | .assigns is es, σ => bnd (evs call false es σ) fun ds => bnd (lft (assignAll is ds σ)) fun σ' => ret (.next σ')
  | .unpack t e, σ => bnd (ev call false e σ) fun d => bnd (lft (bindT t d σ)) fun σ' => ret (.next σ')
  | .pop t x a, σ => bnd (match a with | none => ret none | some e => bnd (ev call false e σ) fun d => match d with | .int i => ret (some i) | _ => stuck) fun k =>
      match ownAt σ x with
      | some (.list xs) => bnd (lft (popD xs k)) fun p => ret (.next (match t with | none => σ.set x (.own (.list p.2)) | some i => (σ.set x (.own (.list p.2))).set i (.frz p.1)))
      | _ => stuck
  | .dpop x k, σ => bnd (ev call false k σ) fun kd => match ownAt σ x with
      | some (.dict kvs) => if keyFits kvs kd && dhas kvs kd then ret (.next (σ.set x (.own (.dict (ddrop kvs kd))))) else stuck
      | _ => stuck
  | .mut m x e, σ => bnd (ev call false e σ) fun d => match ownAt σ x with
      | some d0 => bnd (lft (muD m d0 d)) fun d1 => ret (.next (σ.set x (.own d1)))
      | none => stuck
  | .appPop x y a, σ => bnd (ev call false a σ) fun kd => match kd, ownAt σ x, ownAt σ y with
      | .int k, some (.list xs), some (.list ys) => if x = y then stuck else bnd (lft (popD ys (some k))) fun p => if xs.length < lim then ret (.next ((σ.set y (.own (.list p.2))).set x (.own (.list (xs ++ [p.1]))))) else stuck
      | _, _, _ => stuck
  | .setItem x k v, σ => bnd (ev call false v σ) fun vd => bnd (ev call false k σ) fun kd => match ownAt σ x with
      | some (.list xs) => (match kd with
        | .int i => bnd (lft (ixNat xs.length i)) fun j => ret (.next (σ.set x (.own (.list (xs.set j vd)))))
        | _ => stuck)
      | some (.dict kvs) => if keyFits kvs kd && decide (kvs.length < lim) then ret (.next (σ.set x (.own (.dict (dput kvs kd vd))))) else stuck
      | _ => stuck
  | .aug o i e, σ => bnd (lft (rdSlot false σ i)) fun d => bnd (ev call false e σ) fun d' => match d, d' with
      | .int a, .int b => bnd (lft (bop o (.int a) (.int b))) fun r => ret (.next (σ.set i (.frz r)))
      | _, _ => stuck
  | .source i k, σ => stuck
  | .freeze i, σ => ret (.next (match σ[i]? with | some (.own d) => σ.set i (.frz d) | _ => σ))
  | .if_ c a b, σ => bnd (ev call false c σ) fun d => match d with | .bool t => if t then execs call fuel a σ else execs call fuel b σ | _ => stuck
  | .for_ t it keep body, σ => if wantsLock it σ then stuck else bnd (evI call false it σ) fun ds => forLoop (fun d σ1 => bnd (lft (bindT t d σ1)) fun σ2 => bnd (execs call fuel body σ2) fun fl => match fl with
      | .next σ3 => ret (.next (keepE keep σ3))
      | .ret x => ret (.ret x)) ds (keepE keep σ)
  | .while_ c keep body, σ => whileLoop (fun σ1 => bnd (ev call false c σ1) fun d => match d with
      | .bool true => bnd (execs call fuel body σ1) fun fl => (match fl with
        | .next σ3 => ret (some (.next (keepE keep σ3)))
        | .ret x => ret (some (.ret x)))
      | .bool false => ret none
      | _ => stuck) fuel (keepE keep σ)
  | .ret e, σ => bnd (ev call (isVar e) e σ) fun d => ret (.ret d)
def execs (call : Call) (fuel : Nat) : Ss → Ev → M Fl
  | .nil, σ => ret (.next σ)
  | .cons s r, σ => bnd (exec call fuel s σ) fun fl => match fl with
    | .next σ' => execs call fuel r σ'
    | .ret x => ret (.ret x)
end

end Mp

/-! L2a: what stands in the abstract heap for a tree; the state at a def's body. -/
namespace Mp
open PySem L2 PyProof.Rows

def keyD : Key → D
  | .inl i => .int i
  | .inr x => .str x
def tkeyD (ks : List Key) : D := .tuple (ks.map keyD)

mutual
inductive Rep (Mu : Addr → Prop) (H : Hp) : V → D → Prop
  | non : Rep Mu H .non .none
  | bl (b : Bool) : Rep Mu H (.bl b) (.bool b)
  | int (i : Int) : Rep Mu H (.int i) (.int i)
  | str (x : Str) : Rep Mu H (.str x) (.str x)
  | lst {a : Addr} {xs : List V} {ds : List D} : ¬ Mu a → H a = some (.lst xs) → RepAll Mu H xs ds → Rep Mu H (.ref a) (.list ds)
  | tup {a : Addr} {xs : List V} {ds : List D} : H a = some (.tup xs) → RepAll Mu H xs ds → Rep Mu H (.ref a) (.tuple ds)
  | dK {a : Addr} {kvs : List (Key × V)} {ds : List (D × D)} : ¬ Mu a → Rd H a (.dK kvs) → RepK Mu H kvs ds → Rep Mu H (.ref a) (.dict ds)
  | dT {a : Addr} {kvs : List (List Key × V)} {ds : List (D × D)} : ds ≠ [] → ¬ Mu a → Rd H a (.dT kvs) → RepT Mu H kvs ds → Rep Mu H (.ref a) (.dict ds)
inductive RepAll (Mu : Addr → Prop) (H : Hp) : List V → List D → Prop
  | nil : RepAll Mu H [] []
  | cons {v : V} {vs : List V} {d : D} {ds : List D} : Rep Mu H v d → RepAll Mu H vs ds → RepAll Mu H (v :: vs) (d :: ds)
inductive RepK (Mu : Addr → Prop) (H : Hp) : List (Key × V) → List (D × D) → Prop
  | nil : RepK Mu H [] []
  | cons {k : Key} {v : V} {d : D} {kvs : List (Key × V)} {ds : List (D × D)} : Rep Mu H v d → RepK Mu H kvs ds → RepK Mu H ((k, v) :: kvs) ((keyD k, d) :: ds)
inductive RepT (Mu : Addr → Prop) (H : Hp) : List (List Key × V) → List (D × D) → Prop
  | nil : RepT Mu H [] []
  | cons {k : List Key} {v : V} {d : D} {kvs : List (List Key × V)} {ds : List (D × D)} : Rep Mu H v d → RepT Mu H kvs ds → RepT Mu H ((k, v) :: kvs) ((tkeyD k, d) :: ds)
end

/-- what stands for trees stands on -/
structure Keeps (Mu : Addr → Prop) (H : Hp) (Mu' : Addr → Prop) (H' : Hp) : Prop where
  lst : ∀ a xs, ¬ Mu a → H a = some (.lst xs) → ¬ Mu' a ∧ H' a = some (.lst xs)
  dK : ∀ a xs, ¬ Mu a → Rd H a (.dK xs) → ¬ Mu' a ∧ Rd H' a (.dK xs)
  dT : ∀ a xs, ¬ Mu a → Rd H a (.dT xs) → ¬ Mu' a ∧ Rd H' a (.dT xs)
  tup : ∀ a xs, H a = some (.tup xs) → H' a = some (.tup xs)

section
variable {Mu Mu' Mu'' : Addr → Prop} {H H' H'' : Hp}
mutual
theorem Rep.keeps (k : Keeps Mu H Mu' H') : ∀ {v : V} {d : D}, Rep Mu H v d → Rep Mu' H' v d
  | _, _, .non => .non
  | _, _, .bl b => .bl b
  | _, _, .int i => .int i
  | _, _, .str x => .str x
  | _, _, .lst h1 h2 h3 => .lst (k.lst _ _ h1 h2).1 (k.lst _ _ h1 h2).2 (RepAll.keeps k h3)
  | _, _, .tup h1 h2 => .tup (k.tup _ _ h1) (RepAll.keeps k h2)
  | _, _, .dK h1 h2 h3 => .dK (k.dK _ _ h1 h2).1 (k.dK _ _ h1 h2).2 (RepK.keeps k h3)
  | _, _, .dT h0 h1 h2 h3 => .dT h0 (k.dT _ _ h1 h2).1 (k.dT _ _ h1 h2).2 (RepT.keeps k h3)
theorem RepAll.keeps (k : Keeps Mu H Mu' H') : ∀ {vs : List V} {ds : List D}, RepAll Mu H vs ds → RepAll Mu' H' vs ds
  | _, _, .nil => .nil
  | _, _, .cons h t => .cons (Rep.keeps k h) (RepAll.keeps k t)
theorem RepK.keeps (k : Keeps Mu H Mu' H') : ∀ {kvs : List (Key × V)} {ds : List (D × D)}, RepK Mu H kvs ds → RepK Mu' H' kvs ds
  | _, _, .nil => .nil
  | _, _, .cons h t => .cons (Rep.keeps k h) (RepK.keeps k t)
theorem RepT.keeps (k : Keeps Mu H Mu' H') : ∀ {kvs : List (List Key × V)} {ds : List (D × D)}, RepT Mu H kvs ds → RepT Mu' H' kvs ds
  | _, _, .nil => .nil
  | _, _, .cons h t => .cons (Rep.keeps k h) (RepT.keeps k t)
end

theorem Keeps.refl : Keeps Mu H Mu H := ⟨fun _ _ h r => ⟨h, r⟩, fun _ _ h r => ⟨h, r⟩, fun _ _ h r => ⟨h, r⟩, fun _ _ h => h⟩
theorem Keeps.trans (a : Keeps Mu H Mu' H') (b : Keeps Mu' H' Mu'' H'') : Keeps Mu H Mu'' H'' :=
  ⟨fun c u h r => b.lst c u (a.lst c u h r).1 (a.lst c u h r).2, fun c u h r => b.dK c u (a.dK c u h r).1 (a.dK c u h r).2, fun c u h r => b.dT c u (a.dT c u h r).1 (a.dT c u h r).2, fun c xs h => b.tup c xs (a.tup c xs h)⟩

/-- the source's dict and its list of cells -/
abbrev Sw := Option (Addr × Addr)
def offS (sw : Sw) (b : Addr) : Prop := ∀ p, sw = some p → b ≠ p.1 ∧ b ≠ p.2
/-- all that was tracked stands as it was, but the source -/
def ExtS (sw : Sw) (H H' : Hp) : Prop := ∀ b o, H b = some o → offS sw b → H' b = some o

theorem ExtS.refl (sw : Sw) (H : Hp) : ExtS sw H H := fun _ _ h _ => h
theorem ExtS.trans {sw : Sw} (a : ExtS sw H H') (b : ExtS sw H' H'') : ExtS sw H H'' := fun c o h q => b c o (a c o h q) q
theorem ExtS.of_same {sw : Sw} (a : Same H H') : ExtS sw H H' := fun b o h _ => a b o h

def srcFs (S C : Addr) (s : Src) : List (Key × V) := [(.inr "cells", .ref C), (.inr "left", .int s.left), (.inr "mixed", .int s.mixed), (.inr "turn", .int s.turn)]
structure SrcAt (H : Hp) (S C : Addr) (s : Src) : Prop where
  ne : S ≠ C
  d : H S = some (.dK (srcFs S C s))
  c : H C = some (.lst (s.cells.map V.int))
def SrcOk (sw : Sw) (H : Hp) (s : Src) : Prop := ∀ p, sw = some p → SrcAt H p.1 p.2 s

/-- the owned addresses: the source is among them -/
def SwIn (sw : Sw) (Mu : Addr → Prop) : Prop := ∀ p, sw = some p → Mu p.1 ∧ Mu p.2

theorem ExtS.keeps {sw : Sw} {s : Src} (e : ExtS sw H H') (m : SwIn sw Mu) (o : SrcOk sw H s) : Keeps Mu H Mu H' := by
  have off : ∀ a, ¬ Mu a → offS sw a := fun a h p hp => ⟨fun q => h (q ▸ (m p hp).1), fun q => h (q ▸ (m p hp).2)⟩
  have rd : ∀ a u, ¬ Mu a → Rd H a u → ¬ Mu a ∧ Rd H' a u := fun a u h r => by
    refine ⟨h, ?_⟩
    rcases r with r | ⟨ob, r⟩
    · exact .inl (e a _ r (off a h))
    · exact .inr ⟨ob, e a _ r (off a h)⟩
  refine ⟨fun a u h r => ⟨h, e a _ r (off a h)⟩, fun a u h r => rd a _ h r, fun a u h r => rd a _ h r, fun a xs h => ?_⟩
  · refine e a _ h fun p hp => ⟨fun q => ?_, fun q => ?_⟩
    · have := (o p hp).d
      rw [← q, h] at this; cases this
    · have := (o p hp).c
      rw [← q, h] at this; cases this

/-- an owned thing's inside -/
inductive Own (Mu : Addr → Prop) (H : Hp) (a : Addr) : D → Prop
  | lst {xs : List V} {ds : List D} : H a = some (.lst xs) → RepAll Mu H xs ds → Own Mu H a (.list ds)
  | dK {kvs : List (Key × V)} {ds : List (D × D)} : Rd H a (.dK kvs) → RepK Mu H kvs ds → Own Mu H a (.dict ds)
  | dT {kvs : List (List Key × V)} {ds : List (D × D)} : ds ≠ [] → Rd H a (.dT kvs) → RepT Mu H kvs ds → Own Mu H a (.dict ds)

/-- read without keeping it: a tree, or an owned thing -/
def RepB (b : Bool) (sw : Sw) (Mu : Addr → Prop) (H : Hp) (v : V) (d : D) : Prop := Rep Mu H v d ∨ (b = true ∧ ∃ a, v = .ref a ∧ Mu a ∧ offS sw a ∧ Own Mu H a d)
theorem RepB.of {b : Bool} {sw : Sw} {v : V} {d : D} (h : Rep Mu H v d) : RepB b sw Mu H v d := .inl h
theorem RepB.strict {sw : Sw} {v : V} {d : D} (h : RepB false sw Mu H v d) : Rep Mu H v d := by
  rcases h with h | ⟨h, _⟩
  · exact h
  · cases h

def SlotOk (sw : Sw) (Mu : Addr → Prop) (H : Hp) : Slot → Option (Option V) → Prop
  | .no, _ => True
  | .frz d, x => ∃ v, x = some (some v) ∧ Rep Mu H v d
  | .own d, x => ∃ a, x = some (some (.ref a)) ∧ Mu a ∧ offS sw a ∧ Own Mu H a d
  | .src, x => ∃ p, sw = some p ∧ x = some (some (.ref p.1))

structure JE (sw : Sw) (Mu : Addr → Prop) (env : Ev) (σ : L2.St) (H : Hp) (s : Src) : Prop where
  len : env.length = σ.length
  src : SrcOk sw H s
  swm : SwIn sw Mu
  dom : ∀ a, Mu a → H a ≠ none
  slot : ∀ (i : Nat) sl, env[i]? = some sl → SlotOk sw Mu H sl σ[i]?

theorem Own.keeps {a : Addr} {d : D} (k : Keeps Mu H Mu' H') (r : ∀ u, H a = some u → H' a = some u) (h : Own Mu H a d) : Own Mu' H' a d := by
  have rd : ∀ u, Rd H a u → Rd H' a u := fun u h => h.elim (fun h => .inl (r _ h)) fun ⟨o, h⟩ => .inr ⟨o, r _ h⟩
  cases h with
  | lst h1 h2 => exact .lst (r _ h1) (RepAll.keeps k h2)
  | dK h1 h2 => exact .dK (rd _ h1) (RepK.keeps k h2)
  | dT h0 h1 h2 => exact .dT h0 (rd _ h1) (RepT.keeps k h2)

theorem RepB.ext {b : Bool} {sw : Sw} {s : Src} {v : V} {d : D} (e : ExtS sw H H') (m : SwIn sw Mu) (o : SrcOk sw H s) (h : RepB b sw Mu H v d) : RepB b sw Mu H' v d := by
  rcases h with h | ⟨hb, a, ea, ha, off, h⟩
  · exact .inl (h.keeps (e.keeps m o))
  · exact .inr ⟨hb, a, ea, ha, off, h.keeps (e.keeps m o) fun u r => e a _ r off⟩

theorem JE.ext {sw : Sw} {env : Ev} {σ : L2.St} {s s' : Src} (j : JE sw Mu env σ H s) (e : ExtS sw H H') (o : SrcOk sw H' s') : JE sw Mu env σ H' s' := by
  refine ⟨j.len, o, j.swm, fun a ha hn => ?_, fun i sl h => ?_⟩
  · by_cases off : offS sw a
    · cases q : H a with
      | none => exact j.dom a ha q
      | some u => rw [e a u q off] at hn; cases hn
    · refine off fun p hp => ⟨fun q => ?_, fun q => ?_⟩
      · rw [q, (o p hp).d] at hn; cases hn
      · rw [q, (o p hp).c] at hn; cases hn
  · have k := e.keeps j.swm j.src
    have q := j.slot i sl h
    cases sl with
    | no => trivial
    | frz d => obtain ⟨v, h1, h2⟩ := q; exact ⟨v, h1, h2.keeps k⟩
    | own d => obtain ⟨a, h1, h2, h3, h4⟩ := q; exact ⟨a, h1, h2, h3, h4.keeps k fun u r => e a _ r h3⟩
    | src => exact q
end
end Mp

set_option maxHeartbeats 4000000
/-! L2b: the operators, by trees. -/
namespace Mp
open PySem L2 PyProof.Rows

/-- no locked thing -/
def NoF (H : Hp) (a : Addr) : Prop := ∀ o u, H a ≠ some (.frz o u)
/-- what follows a new value d -/
def Res (Mu : Addr → Prop) (H : Hp) (d : D) (Q : VK) : Prop :=
  ∀ v H', Same H H' → Rep Mu H' v d → (isSeqOrDict d = true → ∀ a, v = .ref a → H a = none ∧ NoF H' a) → Q v H'

section
variable {Mu : Addr → Prop} {H H' : Hp} {sw : Sw} {b : Bool}

theorem same_new {p : Addr} {o : HO} (h : H p = none) : Same H (upd H p o) := fun b x e => by
  rw [upd_ne (ne_of_none e h)]
  exact e
theorem Same.keepsM {H H' : Hp} (e : Same H H') : Keeps Mu H Mu H' :=
  have rd : ∀ a u, ¬ Mu a → Rd H a u → ¬ Mu a ∧ Rd H' a u := fun a u h r => ⟨h, r.elim (fun r => .inl (e a _ r)) fun ⟨o, r⟩ => .inr ⟨o, e a _ r⟩⟩
  ⟨fun a u h r => ⟨h, e a _ r⟩, fun a u h r => rd a _ h r, fun a u h r => rd a _ h r, fun a u h => e a _ h⟩
theorem Same.rep {v : V} {d : D} (e : Same H H') (r : Rep Mu H v d) : Rep Mu H' v d := r.keeps (Same.keepsM e)
theorem Same.repAll {v : List V} {d : List D} (e : Same H H') (r : RepAll Mu H v d) : RepAll Mu H' v d := RepAll.keeps (Same.keepsM e) r
theorem Same.own {a : Addr} {d : D} (e : Same H H') (r : Own Mu H a d) : Own Mu H' a d := r.keeps (Same.keepsM e) fun u h => e a u h
theorem Same.repB {v : V} {d : D} (e : Same H H') (r : RepB b sw Mu H v d) : RepB b sw Mu H' v d :=
  r.elim (fun r => .inl (Same.rep e r)) fun ⟨h1, a, h2, h3, h4, h5⟩ => .inr ⟨h1, a, h2, h3, h4, Same.own e h5⟩

theorem nof_upd {p : Addr} {o : HO} (h : ∀ o' u, o ≠ .frz o' u) : NoF (upd H p o) p := fun o' u z => by
  rw [upd_same] at z
  exact h _ _ (Option.some.inj z)
theorem Res.flat {d : D} {Q : VK} {v : V} (h : Res Mu H d Q) (r : Rep Mu H v d) (hd : isSeqOrDict d = false) : Q v H :=
  h v H (Same.refl H) r fun e => by rw [hd] at e; cases e

/-- a new list, a new tuple -/
theorem Res.newL {ds : List D} {vs : List V} {Q : VK} (h : Res Mu H (.list ds) Q) (dom : ∀ a, Mu a → H a ≠ none) (r : RepAll Mu H vs ds) : ∀ p, H p = none → Q (.ref p) (upd H p (.lst vs)) := fun p hp =>
  h _ _ (same_new hp) (.lst (fun m => dom p m hp) upd_same (Same.repAll (same_new hp) r)) fun _ a e => by cases e; exact ⟨hp, nof_upd (by simp)⟩
theorem Res.newT {ds : List D} {vs : List V} {Q : VK} (h : Res Mu H (.tuple ds) Q) (r : RepAll Mu H vs ds) : ∀ p, H p = none → Q (.ref p) (upd H p (.tup vs)) := fun p hp =>
  h _ _ (same_new hp) (.tup upd_same (Same.repAll (same_new hp) r)) fun e => by cases e

theorem RepAll.length : ∀ {vs : List V} {ds : List D}, RepAll Mu H vs ds → vs.length = ds.length
  | _, _, .nil => rfl
  | _, _, .cons _ t => by rw [List.length_cons, List.length_cons, RepAll.length t]
theorem RepAll.append : ∀ {vs ws : List V} {ds es : List D}, RepAll Mu H vs ds → RepAll Mu H ws es → RepAll Mu H (vs ++ ws) (ds ++ es)
  | _, _, _, _, .nil, h => h
  | _, _, _, _, .cons h t, h' => .cons h (RepAll.append t h')
theorem RepAll.get : ∀ {vs : List V} {ds : List D} {i : Nat} {d : D}, RepAll Mu H vs ds → ds[i]? = some d → ∃ v, vs[i]? = some v ∧ Rep Mu H v d
  | _, _, _, _, .nil, e => by simp at e
  | _, _, 0, _, .cons h _, e => by simp at e; subst e; exact ⟨_, rfl, h⟩
  | _, _, i + 1, _, .cons _ t, e => by
    obtain ⟨v, h1, h2⟩ := RepAll.get (i := i) t (by simpa using e)
    exact ⟨v, by simpa using h1, h2⟩
theorem RepAll.drop : ∀ {vs : List V} {ds : List D} (n : Nat), RepAll Mu H vs ds → RepAll Mu H (vs.drop n) (ds.drop n)
  | _, _, 0, h => h
  | _, _, _ + 1, .nil => .nil
  | _, _, n + 1, .cons _ t => RepAll.drop n t
theorem RepAll.take : ∀ {vs : List V} {ds : List D} (n : Nat), RepAll Mu H vs ds → RepAll Mu H (vs.take n) (ds.take n)
  | _, _, 0, _ => .nil
  | _, _, _ + 1, .nil => .nil
  | _, _, n + 1, .cons h t => .cons h (RepAll.take n t)
theorem RepAll.set {v : V} {d : D} (h : Rep Mu H v d) : ∀ {vs : List V} {ds : List D} (i : Nat), RepAll Mu H vs ds → RepAll Mu H (vs.set i v) (ds.set i d)
  | _, _, _, .nil => .nil
  | _, _, 0, .cons _ t => .cons h t
  | _, _, i + 1, .cons q t => .cons q (RepAll.set h i t)
theorem RepAll.erase : ∀ {vs : List V} {ds : List D} (i : Nat), RepAll Mu H vs ds → RepAll Mu H (vs.eraseIdx i) (ds.eraseIdx i)
  | _, _, _, .nil => .nil
  | _, _, 0, .cons _ t => t
  | _, _, i + 1, .cons q t => .cons q (RepAll.erase i t)
theorem RepAll.dropLast {vs : List V} {ds : List D} (h : RepAll Mu H vs ds) : RepAll Mu H vs.dropLast ds.dropLast := by
  rw [List.dropLast_eq_take, List.dropLast_eq_take, h.length]
  exact h.take _
theorem RepAll.reverse : ∀ {vs : List V} {ds : List D}, RepAll Mu H vs ds → RepAll Mu H vs.reverse ds.reverse
  | _, _, .nil => .nil
  | _, _, .cons h t => by
    rw [List.reverse_cons, List.reverse_cons]
    exact (RepAll.reverse t).append (.cons h .nil)
theorem RepAll.flatRep {vs : List V} {ds : List D} (h : RepAll Mu H vs ds) : ∀ n, RepAll Mu H (List.replicate n vs).flatten (List.replicate n ds).flatten
  | 0 => .nil
  | n + 1 => by
    rw [List.replicate_succ, List.replicate_succ, List.flatten_cons, List.flatten_cons]
    exact h.append (RepAll.flatRep h n)
theorem RepAll.ints : ∀ {vs : List V} {ds : List D} {ns : List Int}, RepAll Mu H vs ds → asInts ds = some ns → vs = ns.map V.int ∧ ds = ns.map .int
  | _, _, ns, .nil, e => by cases e; exact ⟨rfl, rfl⟩
  | _, _, ns, .cons (d := d) h t, e => by
    cases d with
    | int i =>
      cases h
      unfold asInts at e
      obtain ⟨ms, e1, e2⟩ := Option.map_eq_some_iff.mp e
      subst e2
      obtain ⟨h1, h2⟩ := RepAll.ints t e1
      exact ⟨by rw [h1]; rfl, by rw [h2]; rfl⟩
    | _ => cases e
theorem RepAll.bools : ∀ {vs : List V} {ds : List D} {bs : List Bool}, RepAll Mu H vs ds → asBools ds = some bs → vs = bs.map V.bl
  | _, _, ns, .nil, e => by cases e; rfl
  | _, _, ns, .cons (d := d) h t, e => by
    cases d with
    | bool i =>
      cases h
      unfold asBools at e
      obtain ⟨ms, e1, e2⟩ := Option.map_eq_some_iff.mp e
      subst e2
      rw [RepAll.bools t e1]; rfl
    | _ => cases e

/-! ### what a value that reads as a tree is -/
theorem RepB.int {v : V} {i : Int} (h : RepB b sw Mu H v (.int i)) : v = .int i := by
  rcases h with h | ⟨_, _, _, _, _, h⟩
  · cases h; rfl
  · cases h
theorem RepB.bool {v : V} {i : Bool} (h : RepB b sw Mu H v (.bool i)) : v = .bl i := by
  rcases h with h | ⟨_, _, _, _, _, h⟩
  · cases h; rfl
  · cases h
theorem RepB.list {v : V} {ds : List D} (h : RepB b sw Mu H v (.list ds)) : ∃ a xs, v = .ref a ∧ H a = some (.lst xs) ∧ RepAll Mu H xs ds := by
  rcases h with h | ⟨_, a, e, _, _, h⟩
  · cases h with
    | lst h1 h2 h3 => exact ⟨_, _, rfl, h2, h3⟩
  · cases h with
    | lst h1 h2 => exact ⟨_, _, e, h1, h2⟩
theorem RepB.tuple {v : V} {ds : List D} (h : RepB b sw Mu H v (.tuple ds)) : ∃ a xs, v = .ref a ∧ H a = some (.tup xs) ∧ RepAll Mu H xs ds := by
  rcases h with h | ⟨_, a, e, _, _, h⟩
  · cases h with
    | tup h2 h3 => exact ⟨_, _, rfl, h2, h3⟩
  · cases h
theorem RepB.seq {v : V} {d : D} {ds : List D} (h : RepB b sw Mu H v d) (e : seqD d = some ds) : ∃ a xs, v = .ref a ∧ RepAll Mu H xs ds ∧ ((d = .list ds ∧ H a = some (.lst xs)) ∨ (d = .tuple ds ∧ H a = some (.tup xs))) := by
  cases d with
  | list x => cases e; obtain ⟨a, xs, h1, h2, h3⟩ := h.list; exact ⟨a, xs, h1, h3, .inl ⟨rfl, h2⟩⟩
  | tuple x => cases e; obtain ⟨a, xs, h1, h2, h3⟩ := h.tuple; exact ⟨a, xs, h1, h3, .inr ⟨rfl, h2⟩⟩
  | _ => cases e
theorem RepB.dictN {v : V} {ds : List (D × D)} (h : RepB b sw Mu H v (.dict ds)) : ∃ a, v = .ref a ∧ ((∃ kvs, Rd H a (.dK kvs) ∧ RepK Mu H kvs ds) ∨ (ds ≠ [] ∧ ∃ kvs, Rd H a (.dT kvs) ∧ RepT Mu H kvs ds)) := by
  rcases h with h | ⟨_, a, e, _, _, h⟩
  · cases h with
    | dK h1 h2 h3 => exact ⟨_, rfl, .inl ⟨_, h2, h3⟩⟩
    | dT h0 h1 h2 h3 => exact ⟨_, rfl, .inr ⟨h0, _, h2, h3⟩⟩
  · cases h with
    | dK h1 h2 => exact ⟨_, e, .inl ⟨_, h1, h2⟩⟩
    | dT h0 h1 h2 => exact ⟨_, e, .inr ⟨h0, _, h1, h2⟩⟩
theorem RepB.dict {v : V} {ds : List (D × D)} (h : RepB b sw Mu H v (.dict ds)) : ∃ a, v = .ref a ∧ ((∃ kvs, Rd H a (.dK kvs) ∧ RepK Mu H kvs ds) ∨ (∃ kvs, Rd H a (.dT kvs) ∧ RepT Mu H kvs ds)) := by
  obtain ⟨a, e, h⟩ := h.dictN
  exact ⟨a, e, h.imp id fun h => h.2⟩

/-! ### data without dicts -/
mutual
theorem Rep.dp {K : PySem.W.Frag} : ∀ (d : D) (v : V), Rep Mu H v d → d.canLay0 = true → Dp K H v d
  | .none, _, h, _ => by cases h; exact .non
  | .bool b, _, h, _ => by cases h; exact .bl b
  | .int i, _, h, _ => by cases h; exact .int i
  | .str x, _, h, _ => by cases h; exact .str x
  | .list ds, _, h, c => by
    cases h with
    | lst h1 h2 h3 => exact .lst (SqL.of h2) (RepAll.dp ds _ h3 (by simpa [PyData.canLay0] using c))
  | .tuple ds, _, h, c => by
    cases h with
    | tup h2 h3 => exact .tup (SqT.of h2) (RepAll.dp ds _ h3 (by simpa [PyData.canLay0] using c))
  | .dict _, _, _, c => by simp [PyData.canLay0] at c
theorem RepAll.dp {K : PySem.W.Frag} : ∀ (ds : List D) (vs : List V), RepAll Mu H vs ds → PyData.canLayAll0 ds = true → DpAll K H vs ds
  | [], _, h, _ => by cases h; exact .nil
  | d :: ds, _, h, c => by
    cases h with
    | cons h1 h2 =>
      have c' : d.canLay0 = true ∧ PyData.canLayAll0 ds = true := by simpa [PyData.canLayAll0] using c
      exact .cons (Rep.dp d _ h1 c'.1) (RepAll.dp ds _ h2 c'.2)
end
theorem RepB.dp {K : PySem.W.Frag} {d : D} {v : V} (h : RepB b sw Mu H v d) (c : d.canLay0 = true) : Dp K H v d := by
  rcases h with h | ⟨_, a, e, _, _, h⟩
  · exact Rep.dp d v h c
  · subst e
    cases h with
    | lst h1 h2 => exact .lst (SqL.of h1) (RepAll.dp _ _ h2 (by simpa [PyData.canLay0] using c))
    | dK h1 h2 => simp [PyData.canLay0] at c
    | dT h0 h1 h2 => simp [PyData.canLay0] at c

theorem lim_eq : lim = sizeLine := by decide +kernel
end

def pyB : BOp → Operator
  | .add => .Add
  | .sub => .Sub
  | .mul => .Mult
  | .fdiv => .FloorDiv
  | .mod => .Mod
  | .shl => .LShift
  | .xor => .BitXor
  | .pow => .Pow

def rBop (sw : Sw) (o : BOp) : R2 := fun x y H Q => ∃ Mu dx dy d, (∀ a, Mu a → H a ≠ none) ∧ RepB true sw Mu H x dx ∧ RepB true sw Mu H y dy ∧ bop o dx dy = some d ∧ Res Mu H d Q

section
variable {X : Cx} {sw : Sw}
theorem op_bop (o : BOp) : OpR X (binaryOp (pyB o)) (rBop sw o) := by
  intro pins s σ H x y v u Q I rx ry h
  obtain ⟨Mu, dx, dy, d, dom, hx, hy, e, q⟩ := h
  have twoI : ∀ {i j : Int}, dx = .int i → dy = .int j → x = .int i ∧ y = .int j := fun {i j} e1 e2 => by
    subst e1 e2
    exact ⟨hx.int, hy.int⟩
  have fl : ∀ {k : Int}, d = .int k → Q (.int k) H := fun {k} ek => by
    subst ek
    exact q.flat (.int k) rfl
  cases o with
  | add =>
    cases dx with
    | int i =>
      cases dy with
      | int j =>
        obtain ⟨rfl, rfl⟩ := twoI rfl rfl
        have e' : d = .int (i + j) := (Option.some.inj e).symm
        exact op_add pins s σ H _ _ v u Q I rx ry ⟨i, j, rfl, rfl, fl e'⟩
      | _ => cases e
    | tuple xs =>
      cases dy with
      | tuple ys =>
        obtain ⟨a, vs, rfl, ha, ra⟩ := hx.tuple
        obtain ⟨c, ws, rfl, hc, rc⟩ := hy.tuple
        have e' : (if xs.length + ys.length ≤ lim then some (PyData.tuple (xs ++ ys)) else none) = some d := e
        split at e'
        · rename_i hl
          have e2 : d = .tuple (xs ++ ys) := (Option.some.inj e').symm
          subst e2
          refine op_catA pins s σ H _ _ v u Q I rx ry ⟨a, c, vs, ws, rfl, rfl, SqT.of ha, SqT.of hc, ?_, fun e => ?_, fun _ e => ?_, fun _ _ p hp => ?_⟩
          · rw [ra.length, rc.length, ← lim_eq]; exact hl
          · subst e
            have : xs = [] := List.length_eq_zero_iff.mp ra.length.symm
            subst this
            exact q.flat (d := .tuple ys) (.tup hc rc) rfl
          · subst e
            have : ys = [] := List.length_eq_zero_iff.mp rc.length.symm
            subst this
            rw [List.append_nil] at q
            exact q.flat (.tup ha ra) rfl
          · exact q.newT (ra.append rc) p hp
        · cases e'
      | _ => cases e
    | list xs =>
      cases dy with
      | list ys =>
        obtain ⟨a, vs, rfl, ha, ra⟩ := hx.list
        obtain ⟨c, ws, rfl, hc, rc⟩ := hy.list
        have e' : (if xs.length + ys.length ≤ lim then some (PyData.list (xs ++ ys)) else none) = some d := e
        split at e'
        · rename_i hl
          have e2 : d = .list (xs ++ ys) := (Option.some.inj e').symm
          subst e2
          refine op_cat pins s σ H _ _ v u Q I rx ry ⟨a, c, vs, ws, rfl, rfl, ha, hc, ?_, fun p hp => ?_⟩
          · rw [ra.length, rc.length, ← lim_eq]; exact hl
          · exact q.newL dom (ra.append rc) p hp
        · cases e'
      | _ => cases e
    | _ => cases e
  | sub =>
    cases dx with
    | int i =>
      cases dy with
      | int j =>
        obtain ⟨rfl, rfl⟩ := twoI rfl rfl
        have e' : d = .int (i - j) := (Option.some.inj e).symm
        exact op_sub pins s σ H _ _ v u Q I rx ry ⟨i, j, rfl, rfl, fl e'⟩
      | _ => cases e
    | _ => cases e
  | mul =>
    cases dx with
    | int i =>
      cases dy with
      | int j =>
        obtain ⟨rfl, rfl⟩ := twoI rfl rfl
        have e' : (if (small i || small j) = true then some (PyData.int (i * j)) else none) = some d := e
        split at e'
        · rename_i hl
          have e2 : d = .int (i * j) := (Option.some.inj e').symm
          refine op_mul pins s σ H _ _ v u Q I rx ry ⟨i, j, rfl, rfl, ?_, fl e2⟩
          rcases Bool.or_eq_true_iff.mp hl with h | h
          · exact .inl (of_decide_eq_true h)
          · exact .inr (of_decide_eq_true h)
        · cases e'
      | _ => cases e
    | list xs =>
      cases dy with
      | int k =>
        obtain ⟨a, vs, rfl, ha, ra⟩ := hx.list
        obtain rfl := hy.int
        have e' : (if -(2 ^ 63) ≤ k ∧ k < 2 ^ 63 ∧ xs.length * k.toNat ≤ lim then some (PyData.list (List.replicate k.toNat xs).flatten) else none) = some d := e
        split at e'
        · rename_i hl
          have e2 : d = .list (List.replicate k.toNat xs).flatten := (Option.some.inj e').symm
          subst e2
          refine op_rep pins s σ H _ _ v u Q I rx ry ⟨a, k, vs, rfl, rfl, ha, hl.1, hl.2.1, ?_, fun p hp => ?_⟩
          · rw [ra.length, ← lim_eq]; exact hl.2.2
          · exact q.newL dom (ra.flatRep _) p hp
        · cases e'
      | _ => cases e
    | _ => cases e
  | fdiv =>
    cases dx with
    | int i =>
      cases dy with
      | int j =>
        obtain ⟨rfl, rfl⟩ := twoI rfl rfl
        have e' : (if 0 < j ∧ j < 1073741824 then some (PyData.int (i / j)) else none) = some d := e
        split at e'
        · rename_i hl
          exact op_fdiv pins s σ H _ _ v u Q I rx ry ⟨i, j, rfl, rfl, hl, fl (Option.some.inj e').symm⟩
        · cases e'
      | _ => cases e
    | _ => cases e
  | mod =>
    cases dx with
    | int i =>
      cases dy with
      | int j =>
        obtain ⟨rfl, rfl⟩ := twoI rfl rfl
        have e' : (if 0 < j then some (PyData.int (i % j)) else none) = some d := e
        split at e'
        · rename_i hl
          exact op_mod pins s σ H _ _ v u Q I rx ry ⟨i, j, rfl, rfl, hl, fl (Option.some.inj e').symm⟩
        · cases e'
      | _ => cases e
    | _ => cases e
  | shl =>
    cases dx with
    | int i =>
      cases dy with
      | int j =>
        obtain ⟨rfl, rfl⟩ := twoI rfl rfl
        have e' : (if i = 1 ∧ 0 ≤ j ∧ j ≤ 134217727 then some (PyData.int (2 ^ j.toNat)) else none) = some d := e
        split at e'
        · rename_i hl
          obtain ⟨rfl, h0, h1⟩ := hl
          have ej : j = ((j.toNat : Nat) : Int) := by omega
          refine op_oneShl pins s σ H _ _ v u Q I rx ry ⟨j.toNat, rfl, by rw [← ej], by omega, fl (Option.some.inj e').symm⟩
        · cases e'
      | _ => cases e
    | _ => cases e
  | xor =>
    cases dx with
    | int i =>
      cases dy with
      | int j =>
        obtain ⟨rfl, rfl⟩ := twoI rfl rfl
        have e' : d = .int (Builtin.bitXor i j) := (Option.some.inj e).symm
        exact op_xor pins s σ H _ _ v u Q I rx ry ⟨i, j, rfl, rfl, fl e'⟩
      | _ => cases e
    | _ => cases e
  | pow =>
    cases dx with
    | int i =>
      cases dy with
      | int j =>
        obtain ⟨rfl, rfl⟩ := twoI rfl rfl
        have e' : (if 0 ≤ j ∧ j ≤ 1000000 ∧ i.natAbs < 2 ^ 64 then some (PyData.int (i ^ j.toNat)) else none) = some d := e
        split at e'
        · rename_i hl
          exact op_pow pins s σ H _ _ v u Q I rx ry ⟨i, j, rfl, rfl, hl, fl (Option.some.inj e').symm⟩
        · cases e'
      | _ => cases e
    | _ => cases e
end
end Mp

set_option maxHeartbeats 4000000
/-! L2c: dicts read by trees; comparisons. -/
namespace Mp
open PySem L2 PyProof.Rows

theorem eqv_keyD (a b : Key) : (keyD a).eqv (keyD b) = decide (a = b) := by
  cases a with
  | inl i => cases b with
    | inl j =>
      show (i == j) = _
      by_cases e : i = j
      · subst e; simp
      · rw [decide_eq_false (fun q => e (Sum.inl.inj q))]; exact beq_eq_false_iff_ne.mpr e
    | inr y => show false = _; exact (decide_eq_false (fun q => nomatch q)).symm
  | inr x => cases b with
    | inl j => show false = _; exact (decide_eq_false (fun q => nomatch q)).symm
    | inr y =>
      show (x == y) = _
      by_cases e : x = y
      · subst e; simp
      · rw [decide_eq_false (fun q => e (Sum.inr.inj q))]; exact beq_eq_false_iff_ne.mpr e
theorem eqvAll_keys : ∀ a b : List Key, PyData.eqvAll (a.map keyD) (b.map keyD) = decide (a = b)
  | [], [] => by simp [PyData.eqvAll]
  | [], _ :: _ => by simp [PyData.eqvAll]
  | _ :: _, [] => by simp [PyData.eqvAll]
  | x :: xs, y :: ys => by
    rw [List.map_cons, List.map_cons, PyData.eqvAll, eqv_keyD, eqvAll_keys xs ys]
    by_cases e : x = y
    · by_cases e2 : xs = ys
      · simp [e, e2]
      · simp [e, e2]
    · simp [e]
theorem eqv_tkeyD (a b : List Key) : (tkeyD a).eqv (tkeyD b) = decide (a = b) := by
  unfold tkeyD
  rw [PyData.eqv, eqvAll_keys]
theorem isTup_keyD (k : Key) : isTupKey (keyD k) = false := by cases k <;> rfl
theorem isTup_tkeyD (k : List Key) : isTupKey (tkeyD k) = true := rfl

section
variable {Mu : Addr → Prop} {H H' : Hp} {sw : Sw} {b : Bool}

theorem keys_flat : ∀ {vs : List V} {ds : List D}, RepAll Mu H vs ds → ds.all flatKey = true → ∃ ks : List Key, ds = ks.map keyD ∧ vs = ks.map kV
  | _, _, .nil, _ => ⟨[], rfl, rfl⟩
  | _, _, .cons (d := d) h t, f => by
    rw [List.all_cons, Bool.and_eq_true] at f
    obtain ⟨ks, h1, h2⟩ := keys_flat t f.2
    cases d with
    | int i => cases h; exact ⟨.inl i :: ks, by rw [h1]; rfl, by rw [h2]; rfl⟩
    | str x => cases h; exact ⟨.inr x :: ks, by rw [h1]; rfl, by rw [h2]; rfl⟩
    | _ => exact absurd f.1 (by simp [flatKey])
theorem key_cases {y : V} {k : D} (h : RepB b sw Mu H y k) (f : keyOk k = true) : (∃ c : Key, k = keyD c ∧ y = kV c) ∨ (∃ cs a, k = tkeyD cs ∧ y = .ref a ∧ H a = some (.tup (cs.map kV))) := by
  cases k with
  | int i => exact .inl ⟨.inl i, rfl, h.int⟩
  | str x =>
    refine .inl ⟨.inr x, rfl, ?_⟩
    rcases h with h | ⟨_, _, _, _, _, h⟩
    · cases h; rfl
    · cases h
  | tuple ds =>
    obtain ⟨a, xs, rfl, ha, r⟩ := h.tuple
    obtain ⟨ks, h1, h2⟩ := keys_flat r (by simpa [keyOk] using f)
    subst h1 h2
    exact .inr ⟨ks, a, rfl, rfl, ha⟩
  | _ => simp [keyOk, flatKey] at f

/-- reads as a dict with such keys; an empty one reads as both -/
def KRd (H : Hp) (a : Addr) (kvs : List (Key × V)) : Prop := Rd H a (.dK kvs) ∨ (kvs = [] ∧ Rd H a (.dT []))
def TRd (H : Hp) (a : Addr) (kvs : List (List Key × V)) : Prop := Rd H a (.dT kvs) ∨ (kvs = [] ∧ Rd H a (.dK []))
def DG (H : Hp) (a : Addr) (y : V) (o : Option V) : Prop :=
  (∃ kvs k, KRd H a kvs ∧ y = kV k ∧ o = valV kvs k) ∨ ∃ kvs k c, TRd H a kvs ∧ y = .ref c ∧ H c = some (.tup (k.map kV)) ∧ o = valV kvs k

section
variable {P : Program} {w : World} {h : Heap} {a : Addr}
theorem krd_ok {kvs : List (Key × V)} (ok : HOk P w H h) (e : KRd H a kvs) : kvs.length ≤ sizeLine ∧ (a == sysModules) = false ∧ ∃ vs, KV kvs vs ∧ h.DictOf (mixKind P w) a vs := by
  rcases e with e | ⟨rfl, e⟩
  · exact dk_rd ok e
  · obtain ⟨z, y, xs, r, o, es, ep, h1, h2, h3, h4, _, _⟩ := dt_rd ok e
    cases r
    have h4' : es.toList = [] := h4
    refine ⟨Nat.zero_le _, y, [], .nil, o, es, ep, h1, h2, h3, ?_, ?_, List.nodup_nil⟩
    · have he : es = #[] := Array.toList_eq_nil_iff.mp h4'
      subst he
      intro i e'
      simp at e'
    · rw [h4']; exact .nil
theorem trd_ok {kvs : List (List Key × V)} (ok : HOk P w H h) (e : TRd H a kvs) : kvs.length ≤ sizeLine ∧ (a == sysModules) = false ∧ ∃ xs, KT H kvs xs ∧ h.DictOfH (tupleKind (mixKind P w)) a xs := by
  rcases e with e | ⟨rfl, e⟩
  · exact dt_rd ok e
  · obtain ⟨z, y, vs, r, o, es, ep, h1, h2, h3, _, h4, _⟩ := dk_rd ok e
    cases r
    have h4' : es.toList = [] := by
      revert h4
      generalize es.toList = l
      intro h4
      cases h4
      rfl
    exact ⟨Nat.zero_le _, y, [], .nil, o, es, ep, h1, h2, h3, h4', fun _ hx => (nomatch hx), List.nodup_nil⟩
end

theorem RepK.get : ∀ {kvs : List (Key × V)} {ds : List (D × D)}, RepK Mu H kvs ds → ∀ k, (valV kvs k = none ∧ dget ds (keyD k) = none ∧ dhas ds (keyD k) = false) ∨ (∃ v d, valV kvs k = some v ∧ dget ds (keyD k) = some d ∧ dhas ds (keyD k) = true ∧ Rep Mu H v d)
  | _, _, .nil, k => .inl ⟨rfl, rfl, rfl⟩
  | _, _, .cons (k := c) (v := v) (d := d) (kvs := kvs) (ds := ds) h t, k => by
    by_cases e : c = k
    · refine .inr ⟨v, d, valV_pos e, ?_, ?_, h⟩
      · subst e; simp [dget, eqv_keyD]
      · subst e; simp [dhas, eqv_keyD]
    · have f : (keyD c).eqv (keyD k) = false := by rw [eqv_keyD]; exact decide_eq_false e
      have g1 : dget ((keyD c, d) :: ds) (keyD k) = dget ds (keyD k) := by simp [dget, f]
      have g2 : dhas ((keyD c, d) :: ds) (keyD k) = dhas ds (keyD k) := by simp [dhas, f]
      rw [valV_neg (p := (c, v)) e, g1, g2]
      exact RepK.get t k
theorem RepT.get : ∀ {kvs : List (List Key × V)} {ds : List (D × D)}, RepT Mu H kvs ds → ∀ k, (valV kvs k = none ∧ dget ds (tkeyD k) = none ∧ dhas ds (tkeyD k) = false) ∨ (∃ v d, valV kvs k = some v ∧ dget ds (tkeyD k) = some d ∧ dhas ds (tkeyD k) = true ∧ Rep Mu H v d)
  | _, _, .nil, k => .inl ⟨rfl, rfl, rfl⟩
  | _, _, .cons (k := c) (v := v) (d := d) (kvs := kvs) (ds := ds) h t, k => by
    by_cases e : c = k
    · refine .inr ⟨v, d, valV_pos e, ?_, ?_, h⟩
      · subst e; simp [dget, eqv_tkeyD]
      · subst e; simp [dhas, eqv_tkeyD]
    · have f : (tkeyD c).eqv (tkeyD k) = false := by rw [eqv_tkeyD]; exact decide_eq_false e
      have g1 : dget ((tkeyD c, d) :: ds) (tkeyD k) = dget ds (tkeyD k) := by simp [dget, f]
      have g2 : dhas ((tkeyD c, d) :: ds) (tkeyD k) = dhas ds (tkeyD k) := by simp [dhas, f]
      rw [valV_neg (p := (c, v)) e, g1, g2]
      exact RepT.get t k

theorem RepK.fits {kvs : List (Key × V)} {ds : List (D × D)} (r : RepK Mu H kvs ds) {k : D} (f : keyFits ds k = true) : (kvs = [] ∧ ds = []) ∨ isTupKey k = false := by
  cases r with
  | nil => exact .inl ⟨rfl, rfl⟩
  | cons h t =>
    right
    simp only [keyFits, List.all_cons, isTup_keyD, Bool.and_eq_true, beq_iff_eq] at f
    exact f.2.1.symm
theorem RepT.fits {kvs : List (List Key × V)} {ds : List (D × D)} (r : RepT Mu H kvs ds) {k : D} (f : keyFits ds k = true) : (kvs = [] ∧ ds = []) ∨ isTupKey k = true := by
  cases r with
  | nil => exact .inl ⟨rfl, rfl⟩
  | cons h t =>
    right
    simp only [keyFits, List.all_cons, isTup_tkeyD, Bool.and_eq_true, beq_iff_eq] at f
    exact f.2.1.symm
theorem keyFits_ok {ds : List (D × D)} {k : D} (f : keyFits ds k = true) : keyOk k = true := by
  simp only [keyFits, Bool.and_eq_true] at f
  exact f.1

/-- a key looked up -/
theorem dg_of {x y : V} {ds : List (D × D)} {k : D} (hd : RepB true sw Mu H x (.dict ds)) (hk : RepB b sw Mu H y k) (f : keyFits ds k = true) :
    ∃ a o, x = .ref a ∧ DG H a y o ∧ ((o = none ∧ dget ds k = none ∧ dhas ds k = false) ∨ (∃ v d, o = some v ∧ dget ds k = some d ∧ dhas ds k = true ∧ Rep Mu H v d)) := by
  obtain ⟨a, ex, hx⟩ := hd.dict
  clear hd
  subst ex
  rcases key_cases hk (keyFits_ok f) with ⟨c, rfl, rfl⟩ | ⟨cs, p, rfl, rfl, hp⟩
  · rcases hx with ⟨kvs, e, r⟩ | ⟨kvs, e, r⟩
    · exact ⟨a, _, rfl, .inl ⟨kvs, c, .inl e, rfl, rfl⟩, r.get c⟩
    · rcases r.fits f with ⟨rfl, rfl⟩ | q
      · exact ⟨a, _, rfl, .inl ⟨[], c, .inr ⟨rfl, e⟩, rfl, rfl⟩, .inl ⟨rfl, rfl, rfl⟩⟩
      · rw [isTup_keyD] at q; cases q
  · rcases hx with ⟨kvs, e, r⟩ | ⟨kvs, e, r⟩
    · rcases r.fits f with ⟨rfl, rfl⟩ | q
      · exact ⟨a, _, rfl, .inr ⟨[], cs, p, .inr ⟨rfl, e⟩, rfl, hp, rfl⟩, .inl ⟨rfl, rfl, rfl⟩⟩
      · rw [isTup_tkeyD] at q; cases q
    · exact ⟨a, _, rfl, .inr ⟨kvs, cs, p, .inl e, rfl, hp, rfl⟩, r.get cs⟩
end

section
variable {X : Cx} {pins : List (Addr × Obj)} {σ : L2.St} {H : Hp} {s : Shared} {a : Addr} {y v : V} {u r : Value} {o : Option V} {A : Around} {E : Value → Shared → Prop}
theorem dg_in {neg : Bool} {Q : Value → Shared → Prop} (hu : A.units + 1 < cLine) (I : Inv X pins σ H s) (g : DG H a y o) (ry : RelV y u) (hq : ∀ s', Inv X pins σ H s' → Q (.bool (if neg then !o.isSome else o.isSome)) s') :
    wpAny (model X.prog X.w) A (compareOp (if neg then .NotIn else .In) u (.ref a)) Q E s := by
  rcases g with ⟨kvs, k, e, rfl, rfl⟩ | ⟨kvs, k, c, e, rfl, hc, rfl⟩
  · obtain ⟨z, hd, vs, rel, dd⟩ := krd_ok I.hok e
    have q := fun tk => hq _ (I.tok tk)
    rw [(rel.val k).isSome_eq] at q
    cases neg with
    | true => exact wpAny_notIn_of (kV_is ry) hd dd.mapOf (q _)
    | false => exact wpAny_in_of (kV_is ry) hd dd.mapOf (q _)
  · obtain rfl : u = Value.ref c := ry
    obtain ⟨z, hd, xs, rel, dd⟩ := trd_ok I.hok e
    have q := fun tk => hq _ (I.tok tk)
    rw [(rel.val k).isSome_eq, Option.isSome_map] at q
    cases neg with
    | true => exact wpAny_notIn_heap (tupleKind_room_in1 hu) (key_of I.hok hc) hd dd (q _)
    | false => exact wpAny_in_heap (tupleKind_room_in1 hu) (key_of I.hok hc) hd dd (q _)
theorem dg_item {Q : Value → Shared → Prop} (hu : A.units + 1 < cLine) (I : Inv X pins σ H s) (g : DG H a y (some v)) (ry : RelV y u) (hq : ∀ w' s', Inv X pins σ H s' → RelV v w' → Q w' s') :
    wpAny (model X.prog X.w) A (getItem (.ref a) u) Q E s := by
  refine d_getItem hu I ?_ ry hq
  rcases g with ⟨kvs, k, e, e1, e2⟩ | ⟨kvs, k, c, e, e1, hc, e2⟩
  · rcases e with e | ⟨rfl, e⟩
    · exact .inl ⟨kvs, k, e, e1, e2⟩
    · cases e2
  · rcases e with e | ⟨rfl, e⟩
    · exact .inr ⟨kvs, k, c, e, e1, hc, e2⟩
    · cases e2
theorem dg_get2 {d : V} {Q : Value → Shared → Prop} (hu : A.units + 1 < cLine) (I : Inv X pins σ H s) (g : DG H a y o) (ry : RelV y u) (rd : RelV d r) (hq : ∀ w' s', Inv X pins σ H s' → RelV (o.getD d) w' → Q w' s') :
    wpAny (model X.prog X.w) A (call (.builtin "dict.get") [.ref a, u, r]) Q E s := by
  rcases g with ⟨kvs, k, e, rfl, rfl⟩ | ⟨kvs, k, c, e, rfl, hc, rfl⟩
  · obtain ⟨z, hd, vs, rel, dd⟩ := krd_ok I.hok e
    exact call_meetsIn PySem.F.slot_dict_get dd.typeIs PySem.F.entry_dict_get (PySem.F.args_dict_get_3 _ _ _)
      (meets_dict_get_default (mixKind X.prog X.w) a (kV_is ry) hd r) ⟨_, dd.mapOf, hq _ _ (I.tok _) ((rel.val k).getD rd)⟩
  · obtain rfl : u = Value.ref c := ry
    obtain ⟨z, hd, xs, rel, dd⟩ := trd_ok I.hok e
    exact call_meetsIn PySem.F.slot_dict_get dd.typeIs PySem.F.entry_dict_get (PySem.F.args_dict_get_3 _ _ _)
      (meetsH_dict_get_default (tupleKind (mixKind X.prog X.w)) a c hd r) ⟨tupleKind_room_in1 hu, k, xs, key_of I.hok hc, dd, hq _ _ (I.tok _) ((rel.val k).getD rd)⟩
end

/-! ### comparisons -/
def pyC : COp → CmpOp
  | .eq => .Eq
  | .ne => .NotEq
  | .lt => .Lt
  | .le => .LtE
  | .gt => .Gt
  | .ge => .GtE
  | .isin => .In
  | .notin => .NotIn

def rCop (sw : Sw) (o : COp) : R2 := fun x y H Q => ∃ Mu dx dy c, RepB true sw Mu H x dx ∧ RepB true sw Mu H y dy ∧ cop o dx dy = some c ∧ Q (.bl c) H

theorem lexAt_le (ns ms : List Int) : ∀ (k i : Nat), i + k = min ns.length ms.length →
    Ob.lexAt (fun j => decide (ns.getD j 0 = ms.getD j 0)) (fun j => decide (ns.getD j 0 ≤ ms.getD j 0)) (decide (ns.length ≤ ms.length)) i k = lexLe (ns.drop i) (ms.drop i)
  | 0, i, hk => by
    rw [Ob.lexAt_zero]
    by_cases h : ns.length ≤ ms.length
    · rw [List.drop_eq_nil_of_le (show ns.length ≤ i by omega), decide_eq_true h]
      rfl
    · have h1 : i < ns.length := by omega
      rw [List.drop_eq_nil_of_le (show ms.length ≤ i by omega), List.drop_eq_getElem_cons h1, decide_eq_false h]
      rfl
  | k + 1, i, hk => by
    rw [Ob.lexAt_succ, lexAt_le ns ms k (i + 1) (by omega)]
    have h1 : i < ns.length := by omega
    have h2 : i < ms.length := by omega
    rw [List.drop_eq_getElem_cons h1, List.drop_eq_getElem_cons h2]
    have e1 : ns.getD i 0 = ns[i] := by simp [List.getD, h1]
    have e2 : ms.getD i 0 = ms[i] := by simp [List.getD, h2]
    rw [e1, e2, lexLe]
    by_cases e : ns[i] = ms[i]
    · simp [e]
    · simp [e]

section
variable {X : Cx} {sw : Sw}
theorem inSeq_some {x : D} {ds : List D} {c : Bool} (e : inSeq x ds = some c) : SeqAt.shaped x = true ∧ SeqAt.shaped (.list ds) = true ∧ c = ds.any fun z => z.eqv x := by
  unfold inSeq at e
  split at e
  · rename_i h
    rw [Bool.and_eq_true] at h
    exact ⟨h.1, h.2, (Option.some.inj e).symm⟩
  · cases e
theorem op_cop (hu : X.A.units + 65 < cLine) (o : COp) : OpR X (compareOp (pyC o)) (rCop sw o) := by
  intro pins s σ H x y v u Q I rx ry h
  obtain ⟨Mu, dx, dy, c, hx, hy, e, q⟩ := h
  have twoI : ∀ {i j : Int}, dx = .int i → dy = .int j → x = .int i ∧ y = .int j := fun {i j} e1 e2 => by
    subst e1 e2
    exact ⟨hx.int, hy.int⟩
  have eqs : ∀ {g : Bool}, (if (shp dx && shp dy) = true then some g else none) = some c → SeqAt.shaped dx = true ∧ SeqAt.shaped dy = true ∧ c = g := fun {g} e => by
    split at e
    · rename_i h
      rw [Bool.and_eq_true] at h
      exact ⟨h.1, h.2, (Option.some.inj e).symm⟩
    · cases e
  -- in, not in over a list, a tuple
  have inq : ∀ (neg : Bool) (ds : List D), (dy = .list ds ∨ dy = .tuple ds) → (∃ g, inSeq dx ds = some g ∧ c = if neg then !g else g) → wpAny (model X.prog X.w) X.A (compareOp (if neg then .NotIn else .In) v u) (EP X pins σ Q) X.xe s := by
    intro neg ds hd he
    obtain ⟨g, hg, hc⟩ := he
    obtain ⟨s1, s2, e1⟩ := inSeq_some hg
    obtain ⟨as, r1⟩ := Dp.reads I dx x v (hx.dp (SeqAt.canLay_of_shaped s1)) rx
    have c2 : PyData.canLayAll0 ds = true := by simpa [PyData.canLay0] using SeqAt.canLay_of_shaped s2
    have room : X.A.units + 1 + min (PyData.depthAll ds) dx.depth < cLine := room_in_shaped s1 hu
    subst hc e1
    rcases hd with rfl | rfl
    · obtain ⟨bs, r2⟩ := Dp.reads I (.list ds) y u (hy.dp (SeqAt.canLay_of_shaped s2)) ry
      cases neg with
      | true => exact SeqAt.notIn_list_reads r2 r1 c2 (SeqAt.canLay_of_shaped s1) room ⟨.bl _, H, I, rfl, q⟩
      | false => exact SeqAt.in_list_reads r2 r1 c2 (SeqAt.canLay_of_shaped s1) room ⟨.bl _, H, I, rfl, q⟩
    · obtain ⟨bs, r2⟩ := Dp.reads I (.tuple ds) y u (hy.dp (by simpa [PyData.canLay0] using c2)) ry
      cases neg with
      | true => exact SeqAt.notIn_tuple_reads r2 r1 c2 (SeqAt.canLay_of_shaped s1) room ⟨.bl _, H, I, rfl, q⟩
      | false => exact SeqAt.in_tuple_reads r2 r1 c2 (SeqAt.canLay_of_shaped s1) room ⟨.bl _, H, I, rfl, q⟩
  have ind : ∀ (neg : Bool) (kvs : List (D × D)), dy = .dict kvs → keyFits kvs dx = true → (c = if neg then !dhas kvs dx else dhas kvs dx) → wpAny (model X.prog X.w) X.A (compareOp (if neg then .NotIn else .In) v u) (EP X pins σ Q) X.xe s := by
    intro neg kvs hd hf hc
    subst hd
    obtain ⟨a, o, rfl, g, hv⟩ := dg_of hy hx hf
    obtain rfl : u = Value.ref a := ry
    refine dg_in (by omega) I g rx fun s' I' => ⟨.bl c, H, I', ?_, q⟩
    have : o.isSome = dhas kvs dx := by
      rcases hv with ⟨h1, _, h3⟩ | ⟨_, _, h1, _, h3, _⟩
      · rw [h1, h3]; rfl
      · rw [h1, h3]; rfl
    rw [this, hc]
    rfl
  cases o with
  | eq =>
    obtain ⟨s1, s2, rfl⟩ := eqs e
    exact op_eqD (by omega) pins s σ H _ _ v u Q I rx ry ⟨dx, dy, hx.dp (SeqAt.canLay_of_shaped s1), hy.dp (SeqAt.canLay_of_shaped s2), s1, s2, q⟩
  | ne =>
    obtain ⟨s1, s2, rfl⟩ := eqs e
    exact op_neD (by omega) pins s σ H _ _ v u Q I rx ry ⟨dx, dy, hx.dp (SeqAt.canLay_of_shaped s1), hy.dp (SeqAt.canLay_of_shaped s2), s1, s2, q⟩
  | lt =>
    cases dx with
    | int i =>
      cases dy with
      | int j =>
        obtain ⟨rfl, rfl⟩ := twoI rfl rfl
        cases (Option.some.inj e)
        exact op_lt pins s σ H _ _ v u Q I rx ry ⟨i, j, rfl, rfl, q⟩
      | _ => cases e
    | _ => cases e
  | le =>
    cases dx with
    | int i =>
      cases dy with
      | int j =>
        obtain ⟨rfl, rfl⟩ := twoI rfl rfl
        cases (Option.some.inj e)
        exact op_le pins s σ H _ _ v u Q I rx ry ⟨i, j, rfl, rfl, q⟩
      | _ => cases e
    | tuple xs =>
      cases dy with
      | tuple ys =>
        obtain ⟨a, vs, rfl, ha, ra⟩ := hx.tuple
        obtain ⟨c', ws, rfl, hc, rc⟩ := hy.tuple
        have e' : (match asInts xs, asInts ys with | some ns, some ms => some (lexLe ns ms) | _, _ => none) = some c := e
        split at e'
        · rename_i ns ms e1 e2
          obtain ⟨rfl, _⟩ := ra.ints e1
          obtain ⟨rfl, _⟩ := rc.ints e2
          refine op_leT (by omega) pins s σ H _ _ v u Q I rx ry ⟨a, c', ns, ms, rfl, rfl, SqT.of ha, SqT.of hc, ?_⟩
          rw [lexAt_le ns ms _ 0 (Nat.zero_add _), List.drop_zero, List.drop_zero, Option.some.inj e']
          exact q
        · cases e'
      | _ => cases e
    | _ => cases e
  | gt =>
    cases dx with
    | int i =>
      cases dy with
      | int j =>
        obtain ⟨rfl, rfl⟩ := twoI rfl rfl
        cases (Option.some.inj e)
        exact op_gt pins s σ H _ _ v u Q I rx ry ⟨i, j, rfl, rfl, q⟩
      | _ => cases e
    | _ => cases e
  | ge =>
    cases dx with
    | int i =>
      cases dy with
      | int j =>
        obtain ⟨rfl, rfl⟩ := twoI rfl rfl
        cases (Option.some.inj e)
        exact op_ge pins s σ H _ _ v u Q I rx ry ⟨i, j, rfl, rfl, q⟩
      | _ => cases e
    | _ => cases e
  | isin =>
    cases dy with
    | list ds => exact inq false ds (.inl rfl) ⟨c, e, rfl⟩
    | tuple ds => exact inq false ds (.inr rfl) ⟨c, e, rfl⟩
    | dict kvs =>
      have e' : (if keyFits kvs dx = true then some (dhas kvs dx) else none) = some c := e
      split at e'
      · rename_i hf
        exact ind false kvs rfl hf (Option.some.inj e').symm
      · cases e'
    | _ => cases e
  | notin =>
    cases dy with
    | list ds =>
      obtain ⟨g, h1, h2⟩ := Option.map_eq_some_iff.mp (show (inSeq dx ds).map (!·) = some c from e)
      exact inq true ds (.inl rfl) ⟨g, h1, h2.symm⟩
    | tuple ds =>
      obtain ⟨g, h1, h2⟩ := Option.map_eq_some_iff.mp (show (inSeq dx ds).map (!·) = some c from e)
      exact inq true ds (.inr rfl) ⟨g, h1, h2.symm⟩
    | dict kvs =>
      have e' : (if keyFits kvs dx = true then some (!dhas kvs dx) else none) = some c := e
      split at e'
      · rename_i hf
        exact ind true kvs rfl hf (Option.some.inj e').symm
      · cases e'
    | _ => cases e
end
end Mp

set_option maxHeartbeats 4000000
/-! L2s: sorting of alike trees, empty tuples among them. -/
namespace Mp
open PySem L2 PyProof.Rows PySem.W PySem.SeqAt

section
variable {prog : Program} {w : World} {A : Around} {E : Value → Shared → Prop} {s : Shared}

/-- two tuples by the slot's own call -/
theorem tup_lt_call {l b : Addr} {us ws : Array Value} {e r : Nat → Bool} {Q : Value → Shared → Prop}
    (hl : s.heap.IsTuple l us) (hb : s.heap.IsTuple b ws)
    (he : ∀ j (h1 : j < us.size) (h2 : j < ws.size), EqAt A.in1 s us[j] ws[j] (e j))
    (hr : ∀ j (h1 : j < us.size) (h2 : j < ws.size), e j = false → RcLt A.in1 s us[j] ws[j] (r j))
    (h : Q (.bool (firstLt e r (decide (us.size < ws.size)) (List.range (min us.size ws.size)))) s) :
    wpAny (model prog w) A (call (.builtin "tuple.__lt__") [.ref l, .ref b]) Q E s := by
  obtain ⟨⟨c1, d1, t1, s1⟩, o1, k1, n1, e1⟩ := id hl
  obtain ⟨⟨c2, d2, t2, s2⟩, o2, k2, n2, e2⟩ := id hb
  simp only at k1 e1 k2 e2
  subst k1 e1 k2 e2
  exact call_meets F.slot_tuple_lt ⟨_, o1, rfl⟩ F.entry_tuple_lt (F.args_tuple_lt_2 _ _)
    (PySem.SeqAt.tuple_ltAt l b us ws n1 n2 d1 d2 s1 s2 e r) ⟨o1, o2, he, hr, h⟩

theorem tup_one_lt {xs ys : List D} {a b : Value} {as bs : List Addr} {Q : Bool → Shared → Prop} (ra : Reads s.heap a (.tuple xs) as) (rb : Reads s.heap b (.tuple ys) bs)
    (hal : alikeAll xs ys = true) (hu : A.units + min (PyData.depth (.tuple xs)) (PyData.depth (.tuple ys)) < cLine) (hq : Q (dataLt (.tuple xs) (.tuple ys)) s) : wpAny (model prog w) A (oneLt' true a b) Q E s := by
  cases ra with
  | @tuple l o vs n _ _ h1 h2 h3 h4 =>
    cases rb with
    | @tuple l' o' vs' n' _ _ k1 k2 k3 k4 =>
      have n1 : vs.size = xs.length := by simpa using ReadsAll.length _ _ _ h4
      have n2 : vs'.size = ys.length := by simpa using ReadsAll.length _ _ _ k4
      rw [dataLt_tuple, ← firstLt_toks xs ys hal, ← n1, ← n2] at hq
      rw [oneLt'_eq]
      simp only [if_true]
      refine wpAny_bind (wpAny_cRoomFor (room_here hu) ?_)
      refine wpAny_bind (wpAny_callSpecialIfBound?_slot (T := "tuple") ⟨_, h1, h2⟩ F.slot_tuple_lt
        (tup_lt_call (e := pairEq xs ys) (r := fun j => dataLt (xs.getD j .none) (ys.getD j .none)) ⟨_, h1, h2, _, h3⟩ ⟨_, k1, k2, _, k3⟩ (fun j j1 j2 => ?_) (fun j j1 j2 hj => ?_) (wpAny_truthy_bool hq)))
      · have q := eqAt_alikeAll xs ys A.in1 s vs.toList vs'.toList _ _ h4 k4 hal (room_in hu) j (by simpa using j1) (by simpa using j2)
        simpa using q
      · have q := rcLt_alikeAll xs ys A.in1 s vs.toList vs'.toList _ _ h4 k4 hal (room_in hu) j (by simpa using j1) (by simpa using j2) hj
        simpa using q

/-- each key's first item, where it has one -/
theorem firsts_run : ∀ {vs : List Value} {ds : List D} {Q : List (Option Value) → Shared → Prop}, EachIs (fun v d => ∃ as, Reads s.heap v d as) vs ds → (∀ d ∈ ds, ∃ xs, d = .tuple xs) →
    (∀ fs : List (Option Value), EachIs (fun f d => f.isSome = true ↔ d ≠ .tuple []) fs ds → Q fs s) → wpAny (model prog w) A (vs.mapM firstOfTuple') Q E s
  | _, _, Q, .nil, _, h => by rw [List.mapM_nil]; exact wpAny_pure (h [] .nil)
  | v :: vs, d :: ds, Q, .cons hd t, ht, h => by
    rw [List.mapM_cons]
    obtain ⟨as, r⟩ := hd
    obtain ⟨xs, rfl⟩ := ht d (.head _)
    cases r with
    | @tuple a o us n _ _ h1 h2 h3 h4 =>
      have e1 : us.size = xs.length := by simpa using ReadsAll.length _ _ _ h4
      refine wpAny_bind ?_
      rw [kas_first_eq]
      refine wpAny_bind (wpAny_typeOf (T := "tuple") ⟨o, h1, h2⟩ ?_)
      have ht0 : ((Value.type "tuple" != Value.type "tuple") = true) = False := by simp
      rw [if_neg (by rw [ht0]; exact fun z => z)]
      refine wpAny_bind (listItems_at h1 h3 (wpAny_pure ?_))
      refine wpAny_bind (firsts_run t (fun d hd => ht d (.tail _ hd)) fun fs hf => wpAny_pure (h _ (.cons ?_ hf)))
      cases xs with
      | nil =>
        have : us = #[] := Array.eq_empty_of_size_eq_zero e1
        subst this
        simp
      | cons x r =>
        have : 0 < us.size := by rw [e1]; exact Nat.succ_pos _
        simp [this]

theorem types_run {T : Value} {Q : List Value → Shared → Prop} : ∀ {vs : List Value}, (∀ v ∈ vs, Looks (model prog w) s.heap (typeOf v) T) → Q (vs.map fun _ => T) s → wpAny (model prog w) A (vs.mapM typeOf) Q E s :=
  fun {vs} h q => kas_mapM (M := model prog w) (r := T) vs (fun v hv Q' hq => (h v hv).here hq) q

/-- the kind that tuples are sorted by, where one is empty -/
theorem kind_tups {v : Value} {vs : List Value} {d0 : D} {ds : List D} {Q : SortKind → Shared → Prop} (e : EachIs (fun v d => ∃ as, Reads s.heap v d as) (v :: vs) (d0 :: ds)) (ht : ∀ d ∈ d0 :: ds, ∃ xs, d = .tuple xs) (h0 : PyData.tuple [] ∈ d0 :: ds)
    (h1 : d0 ≠ .tuple [] → Q general' s) (h2 : d0 = .tuple [] → Q oneType' s) : wpAny (model prog w) A (keyKind' (v :: vs).toArray) Q E s := by
  rw [keyKind'_eq, List.mapM_toArray, map_eq_pure_bind]
  refine wpAny_bind (wpAny_bind (firsts_run e ht fun fs hf => wpAny_pure ?_))
  have hno : ¬ (fs.toArray.all (fun x => x.isSome) = true) := by
    intro z
    have z' : ∀ f ∈ fs, f.isSome = true := by simpa using z
    have : ∀ {fs : List (Option Value)} {ds : List D}, EachIs (fun f d => f.isSome = true ↔ d ≠ .tuple []) fs ds → (∀ f ∈ fs, f.isSome = true) → PyData.tuple [] ∈ ds → False := by
      intro fs ds hf
      induction hf with
      | nil => intro _ h; cases h
      | @cons f d fs ds hfd t ih =>
        intro hz hm
        rcases List.mem_cons.mp hm with rfl | hm
        · exact (hfd.mp (hz f (.head _))) rfl
        · exact ih (fun f hf => hz f (.tail _ hf)) hm
    exact this hf z' h0
  rw [if_neg hno]
  cases hf with
  | @cons f _ fs' _ hfd _ =>
    by_cases hd : d0 = .tuple []
    · have hfn : ¬ (f.isSome = true) := fun z => hfd.mp z hd
      have hcond : ¬ (((f :: fs').toArray[0]?.bind id).isSome = true) := by simpa using hfn
      rw [if_neg hcond, oneTypeOnly'_eq, List.mapM_toArray, map_eq_pure_bind]
      refine wpAny_bind (wpAny_bind (wpAny_bind (types_run (T := .type "tuple") (fun v hv => ?_) (wpAny_pure ?_))))
      · obtain ⟨d, hd, as, r⟩ := e.left v hv
        obtain ⟨xs, rfl⟩ := ht d hd
        exact looks_reads r
      · have hall : ((List.map (fun _ => Value.type "tuple") (v :: vs)).toArray.all fun x => x == Value.type "tuple") = true := by
          rw [Array.all_eq_true_iff_forall_mem]
          intro x hx
          have hx' : x ∈ List.map (fun _ => Value.type "tuple") (v :: vs) := by simpa using hx
          obtain ⟨_, _, rfl⟩ := List.mem_map.mp hx'
          exact beq_self_eq_true _
        have hz : (List.map (fun _ => Value.type "tuple") (v :: vs)).toArray[0]? = some (.type "tuple") := by simp
        rw [hz]
        simp only [hall, if_true]
        refine wpAny_pure ?_
        simp only [Option.isSome_some, if_true]
        exact wpAny_pure (h2 hd)
    · have hfs : f.isSome = true := hfd.mpr hd
      have hcond : ((f :: fs').toArray[0]?.bind id).isSome = true := by simpa using hfs
      rw [if_pos hcond]
      exact wpAny_pure (h1 hd)

/-- alike tuples, empty ones among them, can be sorted -/
theorem sortsAt_tups {vs : List Value} {ds : List D} (e : EachIs (fun v d => ∃ as, Reads s.heap v d as) vs ds) (hal : AllAlike ds) (ht : ∀ d ∈ ds, ∃ xs, d = .tuple xs) (h0 : PyData.tuple [] ∈ ds)
    (hu : ∀ d, d ∈ ds → A.units + d.depth < cLine) : SortsAt prog w A s (dataKind s.heap ds) vs := by
  have room : ∀ {d d' : PyData}, d ∈ ds → A.units + min d.depth d'.depth < cLine := fun {d d'} hd => Nat.lt_of_le_of_lt (Nat.add_le_add_left (Nat.min_le_left _ _) _) (hu d hd)
  have lt : ∀ kd : SortKind, kd = general' ∨ kd = oneType' → H.LtAt prog w A s (dataKind s.heap ds) kd := by
    intro kd hk E x y a b Q ha hb hq
    obtain ⟨d, as, hd, ra, rfl⟩ := dataKind_inv ha
    obtain ⟨d', as', hd', rb, rfl⟩ := dataKind_inv hb
    obtain ⟨xs, rfl⟩ := ht d hd
    obtain ⟨ys, rfl⟩ := ht d' hd'
    have hdd := hal _ hd _ hd'
    have hq' : Q (dataLt (.tuple xs) (.tuple ys)) s := hq
    rcases hk with rfl | rfl
    · show wpAny _ _ (oneLt' false x y) _ _ _
      exact oneLt_alike (fun z => by cases z) ra rb hdd (fun z => by cases z) (room hd) hq'
    · show wpAny _ _ (oneLt' true x y) _ _ _
      exact tup_one_lt ra rb (by simpa [alike] using hdd) (room hd) hq'
  refine ⟨fun v hv => ?_, ?_⟩
  · obtain ⟨d, hd, as, r⟩ := e.left v hv
    exact ⟨_, dataKind_some hal hd r⟩
  · cases e with
    | nil => cases h0
    | @cons v d0 vs ds hv t =>
      by_cases hd : d0 = .tuple []
      · exact ⟨oneType', lt _ (.inr rfl), fun _ E Q hq => kind_tups (.cons hv t) ht h0 (fun z => absurd hd z) fun _ => hq⟩
      · exact ⟨general', lt _ (.inl rfl), fun _ E Q hq => kind_tups (.cons hv t) ht h0 (fun _ => hq) fun z => absurd z hd⟩

/-- any alike trees but None -/
theorem sortsAt_any {vs : List Value} {ds : List D} (e : EachIs (fun v d => ∃ as, Reads s.heap v d as) vs ds) (hal : AllAlike ds) (hn : ∀ d ∈ ds, d ≠ .none)
    (hu : ∀ d, d ∈ ds → A.units + d.depth < cLine) : SortsAt prog w A s (dataKind s.heap ds) vs := by
  by_cases h : Sortable ds
  · exact SortsAt.data e hal h hu
  · have h1 : ∃ d ∈ ds, ∃ xs, d = .tuple xs := by
      refine Classical.byContradiction fun z => h (.inr fun d hd => ⟨hn d hd, fun xs q => z ⟨d, hd, xs, q⟩⟩)
    obtain ⟨d, hd, xs, rfl⟩ := h1
    have ht : ∀ d ∈ ds, ∃ ys, d = .tuple ys := fun d' hd' => by
      have q := hal _ hd _ hd'
      cases d' with
      | tuple ys => exact ⟨ys, rfl⟩
      | _ => exact absurd q (by simp [alike])
    refine sortsAt_tups e hal ht ?_ hu
    refine Classical.byContradiction fun z => h (.inl fun d' hd' => ?_)
    obtain ⟨ys, rfl⟩ := ht d' hd'
    cases ys with
    | nil => exact absurd hd' z
    | cons y r => exact ⟨y, r, rfl⟩
end
end Mp

set_option maxHeartbeats 4000000
/-! L2d: what is walked of a value, all at once: sorted, list, tuple. -/
namespace Mp
open PySem L2 PyProof.Rows PySem.W

theorem Vals.cons_inv {x : V} {xs : List V} {us : List Value} (h : Vals (x :: xs) us) : ∃ u ws, us = u :: ws ∧ RelV x u ∧ Vals xs ws := by
  cases h with
  | cons r t => exact ⟨_, _, rfl, r, t⟩

section
variable {Mu : Addr → Prop} {H : Hp} {sw : Sw} {b : Bool}

theorem rep_key {a : Addr} {ks : List Key} (h : H a = some (.tup (ks.map kV))) : Rep Mu H (.ref a) (tkeyD ks) := by
  refine .tup h ?_
  have : ∀ ks : List Key, RepAll Mu H (ks.map kV) (ks.map keyD) := by
    intro ks
    induction ks with
    | nil => exact .nil
    | cons k r ih =>
      refine .cons ?_ ih
      cases k with
      | inl i => exact .int i
      | inr x => exact .str x
  exact this ks
theorem rep_kV (k : Key) : Rep Mu H (kV k) (keyD k) := by
  cases k with
  | inl i => exact .int i
  | inr x => exact .str x
theorem relV_of_keyIs {k : Key} {v : Value} (h : keyIs k v = true) : RelV (kV k) v := by
  rcases keyIs_shape h with ⟨i, t, rfl, rfl⟩ | ⟨x, t, rfl, rfl⟩
  · exact ⟨t, rfl⟩
  · exact ⟨t, rfl⟩

theorem pairs_vals {P : Program} {w : World} : ∀ {es : List DictEntry} {vs : List (Key × Value)} {kvs : List (Key × V)} {ds : List (D × D)}, Pairs (mixKind P w) es vs → KV kvs vs → RepK Mu H kvs ds →
    ∃ ks ws : List V, Vals ks (es.map (·.key)) ∧ Vals ws (es.map (·.val)) ∧ RepAll Mu H ks (ds.map (·.1)) ∧ RepAll Mu H ws (ds.map (·.2))
  | _, _, _, _, .nil, h1, h2 => by
    cases h1
    cases h2
    exact ⟨[], [], .nil, .nil, .nil, .nil⟩
  | _, _, _, _, .cons hk hv t, h1, h2 => by
    cases h1 with
    | cons hr ht =>
      cases h2 with
      | @cons k v d _ _ h3 t3 =>
        obtain ⟨ks, ws, e1, e2, e3, e4⟩ := pairs_vals t ht t3
        obtain ⟨h5, h6⟩ := hr
        have hk' := hk
        rw [← show k = _ from h5] at hk'
        refine ⟨kV k :: ks, v :: ws, .cons (relV_of_keyIs hk') e1, .cons ?_ e2, .cons (rep_kV k) e3, .cons h3 e4⟩
        have h6' : RelV v _ := h6
        rw [← hv] at h6'
        exact h6'

theorem kt_vals {P : Program} {w : World} : ∀ {xs : List (List Key × Addr × Value)} {kvs : List (List Key × V)} {ds : List (D × D)}, KT H kvs xs → RepT Mu H kvs ds →
    ∃ ks ws : List V, Vals ks ((xs.map (entryOfKey (tupleKind (mixKind P w)))).map (·.key)) ∧ Vals ws ((xs.map (entryOfKey (tupleKind (mixKind P w)))).map (·.val)) ∧ RepAll Mu H ks (ds.map (·.1)) ∧ RepAll Mu H ws (ds.map (·.2))
  | _, _, _, h1, .nil => by
    cases h1
    exact ⟨[], [], .nil, .nil, .nil, .nil⟩
  | _, _, _, h1, .cons h3 t3 => by
    cases h1 with
    | @cons p q _ _ hr ht =>
      obtain ⟨ks, ws, e1, e2, e3, e4⟩ := kt_vals (P := P) (w := w) ht t3
      obtain ⟨h5, h6, h7⟩ := hr
      exact ⟨.ref q.2.1 :: ks, _ :: ws, .cons rfl e1, .cons h7 e2, .cons (rep_key h6) e3, .cons h3 e4⟩
end

section
variable {X : Cx} {pins : List (Addr × Obj)} {σ : L2.St} {H : Hp} {s : Shared} {Mu : Addr → Prop} {sw : Sw} {b : Bool}
/-- a dict's object and its entries -/
theorem dict_entries {x : V} {kvs : List (D × D)} (I : Inv X pins σ H s) (h : RepB b sw Mu H x (.dict kvs)) : ∃ a o es ep, x = .ref a ∧ s.heap.get? a = some o ∧ o.ExactDict ∧ o.data = .dict es ep ∧ (a == sysModules) = false ∧ es.size ≤ sizeLine ∧ es.size = kvs.length ∧
    ∃ ks ws : List V, Vals ks (es.toList.map (·.key)) ∧ Vals ws (es.toList.map (·.val)) ∧ RepAll Mu H ks (kvs.map (·.1)) ∧ RepAll Mu H ws (kvs.map (·.2)) := by
  obtain ⟨a, ex, hh⟩ := h.dict
  subst ex
  rcases hh with ⟨ks, e, r⟩ | ⟨ks, e, r⟩
  · obtain ⟨z, y, vs, rel, o, es, ep, h1, h2, h3, _, h4, _⟩ := dk_rd I.hok e
    obtain ⟨k1, w1, e1, e2, e3, e4⟩ := pairs_vals h4 rel r
    have l1 : k1.length = es.size := by
      rw [e1.length, List.length_map]
      exact Array.length_toList
    have l2 : k1.length = kvs.length := by rw [e3.length, List.length_map]
    have l3 : ks.length = kvs.length := by
      have : ∀ {ks : List (Key × V)} {ds : List (D × D)}, RepK Mu H ks ds → ks.length = ds.length := by
        intro ks
        induction ks with
        | nil => intro ds h; cases h; rfl
        | cons k r ih => intro ds h; cases h with | cons h t => rw [List.length_cons, List.length_cons, ih t]
      exact this r
    exact ⟨a, o, es, ep, rfl, h1, h2, h3, y, by rw [← l1, l2, ← l3]; exact z, by rw [← l1, l2], k1, w1, e1, e2, e3, e4⟩
  · obtain ⟨z, y, xs, rel, o, es, ep, h1, h2, h3, h4, _, _⟩ := dt_rd I.hok e
    obtain ⟨k1, w1, e1, e2, e3, e4⟩ := kt_vals (P := X.prog) (w := X.w) rel r
    rw [← h4] at e1 e2
    have l1 : k1.length = es.size := by
      rw [e1.length, List.length_map]
      exact Array.length_toList
    have l2 : k1.length = kvs.length := by rw [e3.length, List.length_map]
    have l3 : ks.length = kvs.length := by
      have : ∀ {ks : List (List Key × V)} {ds : List (D × D)}, RepT Mu H ks ds → ks.length = ds.length := by
        intro ks
        induction ks with
        | nil => intro ds h; cases h; rfl
        | cons k r ih => intro ds h; cases h with | cons h t => rw [List.length_cons, List.length_cons, ih t]
      exact this r
    exact ⟨a, o, es, ep, rfl, h1, h2, h3, y, by rw [← l1, l2, ← l3]; exact z, by rw [← l1, l2], k1, w1, e1, e2, e3, e4⟩

/-- collecting a tuple's items -/
theorem collect_tuple {A : Around} {E : Value → Shared → Prop} {l : Addr} {vs : List Value} {R : List Value → Shared → Prop} (hl : s.heap.IsTuple l vs.toArray)
    (h : ∀ h' tk, (∀ c o, s.heap.get? c = some o → h'.get? c = some o) → R vs { s with heap := h', toks := tk }) (hsz : vs.length ≤ sizeLine) : wpAny (model X.prog X.w) A (collect (.ref l)) R E s := by
  obtain ⟨o, ho, hc, n, hd⟩ := id hl
  unfold collect
  refine wpAny_bind (wpAny_runValue (codeAny_builtin entry_proto_collect' ?_))
  show wpAny _ _ (do again (.builtin "list.__iadd__" ⟨[← newList [], .ref l], []⟩)) _ _ s
  refine wpAny_bind (wpAny_newList (wpAny_pure ⟨Code.quiet_builtin _ (by decide +kernel), codeAny_builtin entry_list_iadd' ?_⟩))
  show wpAny _ _ (Builtin.List.listExtendWith (.ref s.heap.objs.size) (.ref l) (.ref s.heap.objs.size)) _ _ { s with heap := s.heap.push (seqObj "list" #[] 0) }
  unfold Builtin.List.listExtendWith
  have ho' : (s.heap.push (seqObj "list" #[] 0)).get? l = some o := Heap.get?_push_of_some _ ho
  refine wpAny_bind (wpAny_typeOf (T := "tuple") ⟨o, ho', hc⟩ ?_)
  have ht : (Value.type "tuple" == Value.type "tuple") = true := by rfl
  rw [if_pos (by rw [ht]; simp)]
  refine wpAny_bind (listItems_at ho' hd ?_)
  refine wpAny_bind (listItems_at (xs := #[]) (n := 0) (Heap.get?_push_size _ rfl) rfl ?_)
  rw [if_neg (by simp)]
  have bound : ((#[] : Array Value) ++ vs.toArray).size ≤ sizeLine + 1 := by
    simp only [Array.size_append, List.size_toArray, List.length_nil]
    omega
  refine wpAny_bind (listUpdate_at (xs := #[]) (n := 0) (Heap.get?_push_size _ rfl) rfl ?_ (Nat.zero_le _) bound)
  refine wpAny_pure ?_
  show wpAny _ A (load s.heap.objs.size >>= _) _ _ _
  refine wpAny_bind (wpAny_load (get?_update_seq (Heap.get?_push_size _ rfl) _) ?_)
  show wpAny _ _ (pure ((#[] : Array Value) ++ vs.toArray).toList) _ _ _
  rw [show ((#[] : Array Value) ++ vs.toArray).toList = vs by simp]
  exact wpAny_pure (h _ _ fun c o' q => ((Heap.get?_update_ne _ _ _ _ (Nat.ne_of_lt (Heap.lt_size q))).trans (Heap.get?_push_of_some _ q)))

/-- what is walked of a value, collected -/
theorem coll_of {x : V} {u : Value} {d : D} {xs : List D} (hc : X.A.handled = none) (I : Inv X pins σ H s) (hx : RepB true sw Mu H x d) (e : walkD d = some xs) (rx : RelV x u) :
    ∃ ws : List V, RepAll Mu H ws xs ∧ ws.length ≤ sizeLine ∧ ∀ (E : Value → Shared → Prop) (R : List Value → Shared → Prop),
      (∀ us h' tk, Vals ws us → (∀ c o, s.heap.get? c = some o → h'.get? c = some o) → R us { s with heap := h', toks := tk }) → wpAny (model X.prog X.w) X.A.in1 (collect u) R E s := by
  cases d with
  | list ds =>
    cases e
    obtain ⟨a, ws, rfl, ha, r⟩ := hx.list
    obtain ⟨its, rv, pl, hz⟩ := I.list (SqL.of ha)
    cases rx
    refine ⟨ws, r, hz, fun E R h => ?_⟩
    exact collect_list pl.isList (h its _ _ rv fun c o q => ((Heap.get?_update_ne _ _ _ _ (Nat.ne_of_lt (Heap.lt_size q))).trans (Heap.get?_push_of_some _ q))) (by rw [← rv.length]; exact hz)
  | tuple ds =>
    cases e
    obtain ⟨a, ws, rfl, ha, r⟩ := hx.tuple
    obtain ⟨its, rv, pl, hz⟩ := I.tuple (SqT.of ha)
    cases rx
    refine ⟨ws, r, hz, fun E R h => ?_⟩
    exact collect_tuple (show s.heap.IsTuple a its.toArray from pl) (fun h' tk k => h its h' tk rv k) (by rw [← rv.length]; exact hz)
  | dict kvs =>
    cases e
    obtain ⟨a, o, es, ep, rfl, h1, h2, h3, h4, h5, h6, ks, ws, e1, e2, e3, e4⟩ := dict_entries I hx
    obtain rfl : u = Value.ref a := rx
    refine ⟨ks, e3, ?_, fun E R h => ?_⟩
    · have q := e1.length
      rw [List.length_map, Array.length_toList] at q
      exact Nat.le_trans (Nat.le_of_eq q) h5
    · refine PySem.W.kdu_collect (A := X.A.in1) (PySem.KdlSrc.rawDict (prog := X.prog) (w := X.w) (es := es) (ep := ep) h4) hc ⟨o, h1, h2, h3⟩ h5 fun h' tk acc hk hacc => ?_
      have ea : acc.toList = es.toList.map (·.key) := by
        apply List.ext_getElem?
        intro j
        rw [List.getElem?_map]
        cases hj : acc.toList[j]? with
        | none =>
          have q1 := List.getElem?_eq_none_iff.mp hj
          have q2 : es.toList[j]? = none := List.getElem?_eq_none_iff.mpr (by rw [Array.length_toList] at q1 ⊢; rw [hacc.1] at q1; exact q1)
          rw [q2]; rfl
        | some v =>
          obtain ⟨hi, ev⟩ := hacc.2 j v (by rw [← Array.getElem?_toList]; exact hj)
          have q2 : es.toList[j]? = some es[j] := by rw [Array.getElem?_toList]; exact Array.getElem?_eq_getElem hi
          rw [q2, ev]; rfl
      rw [ea]
      exact h _ h' tk e1 hk
  | _ => cases e
end
end Mp

set_option maxHeartbeats 4000000
/-! L2e: built-in functions by trees. -/
namespace Mp
open PySem L2 PyProof.Rows PySem.W

/-! ### sorted -/
theorem leD_eq : dataLe false (fun d : D => d) = leD := by
  rw [dataLe_eq]
  rfl

section
variable {Mu : Addr → Prop} {H : Hp} {sw : Sw} {b : Bool}
theorem each_of_vals {ws : List V} {us : List Value} (r : Vals ws us) : ∀ {xs : List D}, RepAll Mu H ws xs → EachIs (fun u (p : V × D) => RelV p.1 u ∧ Rep Mu H p.1 p.2) us (ws.zip xs) ∧ (ws.zip xs).map (·.2) = xs := by
  induction r with
  | nil => intro xs h; cases h; exact ⟨.nil, rfl⟩
  | cons h t ih =>
    intro xs hr
    cases hr with
    | cons h1 h2 =>
      obtain ⟨e1, e2⟩ := ih h2
      refine ⟨.cons ⟨h, h1⟩ e1, ?_⟩
      rw [List.zip_cons_cons, List.map_cons, e2]
theorem vals_of_each : ∀ {us : List Value} {ps : List (V × D)}, EachIs (fun u (p : V × D) => RelV p.1 u ∧ Rep Mu H p.1 p.2) us ps → Vals (ps.map (·.1)) us ∧ RepAll Mu H (ps.map (·.1)) (ps.map (·.2))
  | _, _, .nil => ⟨.nil, .nil⟩
  | _, _, .cons h t => ⟨.cons h.1 (vals_of_each t).1, .cons h.2 (vals_of_each t).2⟩

mutual
theorem Rep.dpA {K : PySem.W.Frag} : ∀ (d : D) (v : V), Rep Mu H v d → PySem.W.alike d d = true → Dp K H v d
  | .none, _, h, _ => by cases h; exact .non
  | .bool b, _, h, _ => by cases h; exact .bl b
  | .int i, _, h, _ => by cases h; exact .int i
  | .str x, _, h, _ => by cases h; exact .str x
  | .list ds, _, h, c => by
    cases h with
    | lst h1 h2 h3 => exact .lst (SqL.of h2) (RepAll.dpA ds _ h3 (by simpa [PySem.W.alike] using c))
  | .tuple ds, _, h, c => by
    cases h with
    | tup h2 h3 => exact .tup (SqT.of h2) (RepAll.dpA ds _ h3 (by simpa [PySem.W.alike] using c))
  | .dict _, _, _, c => by simp [PySem.W.alike] at c
theorem RepAll.dpA {K : PySem.W.Frag} : ∀ (ds : List D) (vs : List V), RepAll Mu H vs ds → PySem.W.alikeAll ds ds = true → DpAll K H vs ds
  | [], _, h, _ => by cases h; exact .nil
  | d :: ds, _, h, c => by
    cases h with
    | cons h1 h2 =>
      rw [PySem.W.alikeAll, Bool.and_eq_true] at c
      exact .cons (Rep.dpA d _ h1 c.1) (RepAll.dpA ds _ h2 c.2)
end
end

def rSortD (sw : Sw) : List V → Hp → VK → Prop := fun vs H Q => ∃ Mu x d xs es, (∀ a, Mu a → H a ≠ none) ∧ vs = [x] ∧ RepB true sw Mu H x d ∧ walkD d = some xs ∧ sortD xs = some es ∧ Res Mu H (.list es) Q

section
variable {X : Cx} {sw : Sw}
theorem cr_sortD (hc : X.calm = true) (hu : X.A.units + 100 < cLine) : CallR X (.builtin "sorted") (rSortD sw) := by
  intro pins s σ H vs us Q I r h
  obtain ⟨Mu, x, d, xs, es, dom, rfl, hx, hw, hs, q⟩ := h
  obtain ⟨u, rfl, rx⟩ := vals1 r
  obtain ⟨ws, rw', hz, coll⟩ := coll_of (I.ok.hd hc) I hx hw rx
  unfold sortD at hs
  split at hs
  · rename_i hcond
    obtain rfl := Option.some.inj hs
    simp only [Bool.and_eq_true, List.all_eq_true, decide_eq_true_eq] at hcond
    obtain ⟨⟨⟨hal, hdep⟩, hnn⟩, hlen⟩ := hcond
    have hal' : AllAlike xs := fun a ha b hb => by
      have z := hal
      unfold allAlike at z
      exact List.all_eq_true.mp (List.all_eq_true.mp z a ha) b hb
    have hnn' : ∀ d ∈ xs, d ≠ .none := fun d hd e => by
      subst e
      exact absurd (hnn _ hd) (by simp)
    refine Calls.call_function_entry kind_sorted plain_sorted entry_sorted (args_sorted1 _) ?_
    unfold Builtin.«sorted»
    refine wpAny_bind (m := checkCount "sorted" 1 1 _) (wpAny_pure ?_)
    refine wpAny_bind (coll _ _ fun us h1 tk rv hk => ?_)
    have hl : us.length ≤ sizeLine := by rw [← rv.length]; exact hz
    refine wpAny_bind (wpAny_newList ?_ hl)
    have hoL : (h1.push (seqObj "list" us.toArray 0)).get? h1.objs.size = some (seqObj "list" us.toArray 0) := Heap.get?_push_size _ rfl
    show wpAny _ _ _ _ _ { s with heap := h1.push (seqObj "list" us.toArray 0), toks := tk }
    have k1 : ∀ b o, s.heap.get? b = some o → (h1.push (seqObj "list" us.toArray 0)).get? b = some o := fun b o e => Heap.get?_push_of_some _ (hk b o e)
    have lt1 : ∀ b o, s.heap.get? b = some o → b < h1.objs.size := fun b o e => Heap.lt_size (hk b o e)
    have k2 : ∀ b o, s.heap.get? b = some o → (sortingHeap (h1.push (seqObj "list" us.toArray 0)) h1.objs.size us).get? b = some o := fun b o e => sortingHeap_old (Nat.ne_of_lt (lt1 b o e)) (k1 b o e)
    obtain ⟨e1, e2⟩ := each_of_vals (Mu := Mu) (H := H) rv rw'
    have er : EachIs (fun u (p : V × D) => ∃ as, Reads (sortingHeap (h1.push (seqObj "list" us.toArray 0)) h1.objs.size us) u p.2 as) us (ws.zip xs) := (each_mem e1).mono fun u p hp => by
      have hm : p.2 ∈ xs := by rw [← e2]; exact List.mem_map_of_mem hp.2
      obtain ⟨as, ra⟩ := Dp.reads I p.2 p.1 u (Rep.dpA p.2 p.1 hp.1.2 (hal' _ hm _ hm)) hp.1.1
      exact ⟨as, PyProof.Rows.Reads.keeps k2 ra⟩
    have er2 : EachIs (fun u d => ∃ as, Reads (sortingHeap (h1.push (seqObj "list" us.toArray 0)) h1.objs.size us) u d as) us ((ws.zip xs).map (·.2)) := each_map (R := fun u d => ∃ as, Reads (sortingHeap (h1.push (seqObj "list" us.toArray 0)) h1.objs.size us) u d as) (fun p : V × D => p.2) er
    have S : SortsAt X.prog X.w X.A.in1.in1 { heap := sortingHeap (h1.push (seqObj "list" us.toArray 0)) h1.objs.size us, gens := s.gens, drawn := s.drawn, toks := tk, os := s.os } (dataKind (sortingHeap (h1.push (seqObj "list" us.toArray 0)) h1.objs.size us) ((ws.zip xs).map (·.2))) us :=
      sortsAt_any er2 (by rw [e2]; exact hal') (by rw [e2]; exact hnn') (fun d hd => by
        rw [e2] at hd
        have := hdep d hd
        show X.A.units + 1 + 1 + d.depth < cLine
        omega)
    refine wpAny_bind (wpAny_holding (wpAny_call_entry slot_list_sort ⟨_, hoL, rfl⟩ entry_list_sort (list_sort_vals hoL S hl ⟨_, rfl, ?_⟩) (args_list_sort _)))
    refine wpAny_pure ⟨_, rfl, ?_⟩
    have out := sortVals_data (R := fun u (p : V × D) => RelV p.1 u ∧ Rep Mu H p.1 p.2) (enc := fun p : V × D => p.2) false e1 er (by rw [e2]; exact hal')
    obtain ⟨v1, v2⟩ := vals_of_each out
    have em : ((ws.zip xs).mergeSort (dataLe false fun p => p.2)).map (·.2) = xs.mergeSort leD := by
      have := List.map_mergeSort (r := dataLe false fun p : V × D => p.2) (s := leD) (f := fun p : V × D => p.2) (l := ws.zip xs) (fun a _ b _ => by rw [← leD_eq]; rfl)
      rw [this, e2]
    rw [em] at v2
    obtain ⟨ep, hat⟩ := sortedHeap_at (out := (sortVals (dataKind (sortingHeap (h1.push (seqObj "list" us.toArray 0)) h1.objs.size us) ((ws.zip xs).map (·.2))) false us us).toArray) hoL
    have I1 : Inv X pins σ H { s with heap := h1, toks := tk } := I.kept hk
    refine ⟨.ref h1.objs.size, upd H h1.objs.size (.lst (((ws.zip xs).mergeSort (dataLe false fun p => p.2)).map (·.1))), I1.laid (a := h1.objs.size) (t' := tk) (fun b o e => ?_) (Nat.le_refl _) ⟨?_, _, ep, v1, hat⟩, rfl, q.newL dom v2 _ (I1.hok.fresh (Nat.le_refl _))⟩
    · have hlt : b < h1.objs.size := Heap.lt_size (show h1.get? b = some o from e)
      exact (sortedHeap_old (Nat.ne_of_lt hlt) (by rw [size_push']; exact Nat.lt_succ_of_lt hlt)).trans (Heap.get?_push_of_some _ e)
    · rw [v1.length, sortVals_length false rfl]; exact hl
  · cases hs
end
end Mp

set_option maxHeartbeats 4000000
/-! L2f: built-in functions by trees, all of them. -/
namespace Mp
open PySem L2 PyProof.Rows PySem.W

def pyF : Bf → Value
  | .len => .builtin "len"
  | .sorted => .builtin "sorted"
  | .tuple => .type "tuple"
  | .list => .type "list"
  | .dict => .type "dict"
  | .sum => .builtin "sum"
  | .min1 => .builtin "min"
  | .max1 => .builtin "max"
  | .min2 => .builtin "min"
  | .max2 => .builtin "max"
  | .abs => .builtin "abs"
  | .int => .type "int"
  | .all => .builtin "all"
  | .repr => .builtin "repr"

abbrev RepBs (sw : Sw) (Mu : Addr → Prop) (H : Hp) : List V → List D → Prop := Paired (RepB true sw Mu H)
def rBf (sw : Sw) (f : Bf) : List V → Hp → VK → Prop := fun vs H Q => ∃ Mu ds d, (∀ a, Mu a → H a ≠ none) ∧ RepBs sw Mu H vs ds ∧ bf f ds = some d ∧ Res Mu H d Q

theorem paired_one {α β : Type} {F : α → β → Prop} {l : List α} {b : β} (h : Paired F l [b]) : ∃ a, l = [a] ∧ F a b := by
  cases h with
  | cons h t => cases t; exact ⟨_, rfl, h⟩
theorem paired_two {α β : Type} {F : α → β → Prop} {l : List α} {b c : β} (h : Paired F l [b, c]) : ∃ a d, l = [a, d] ∧ F a b ∧ F d c := by
  cases h with
  | cons h t =>
    cases t with
    | cons h2 t2 => cases t2; exact ⟨_, _, rfl, h, h2⟩

theorem minI_spec : ∀ {ns : List Int} {m : Int}, minI ns = some m → ∀ k, k ∈ ns → (∀ y, y ∈ ns → k ≤ y) → k = m := by
  intro ns m h k hk hle
  cases ns with
  | nil => cases hk
  | cons x r =>
    have e : m = r.foldl (fun a b => if b < a then b else a) x := (Option.some.inj h).symm
    have key : ∀ (r : List Int) (x : Int), (∀ y ∈ x :: r, r.foldl (fun a b => if b < a then b else a) x ≤ y) ∧ r.foldl (fun a b => if b < a then b else a) x ∈ x :: r := by
      intro r
      induction r with
      | nil => intro x; exact ⟨fun y hy => by simp at hy; subst hy; exact Int.le_refl _, by simp⟩
      | cons z r ih =>
        intro x
        rw [List.foldl_cons]
        obtain ⟨h1, h2⟩ := ih (if z < x then z else x)
        refine ⟨fun y hy => ?_, ?_⟩
        · have q := h1 (if z < x then z else x) (.head _)
          rcases List.mem_cons.mp hy with rfl | hy
          · split at q <;> split <;> omega
          · rcases List.mem_cons.mp hy with rfl | hy
            · split at q <;> split <;> omega
            · exact h1 y (.tail _ hy)
        · rcases List.mem_cons.mp h2 with q | q
          · rw [q]; split <;> simp
          · exact .tail _ (.tail _ q)
    obtain ⟨h1, h2⟩ := key r x
    rw [← e] at h1 h2
    have a1 := h1 k hk
    have a2 := hle m h2
    omega
theorem maxI_spec : ∀ {ns : List Int} {m : Int}, maxI ns = some m → ∀ k, k ∈ ns → (∀ y, y ∈ ns → y ≤ k) → k = m := by
  intro ns m h k hk hle
  cases ns with
  | nil => cases hk
  | cons x r =>
    have e : m = r.foldl (fun a b => if a < b then b else a) x := (Option.some.inj h).symm
    have key : ∀ (r : List Int) (x : Int), (∀ y ∈ x :: r, y ≤ r.foldl (fun a b => if a < b then b else a) x) ∧ r.foldl (fun a b => if a < b then b else a) x ∈ x :: r := by
      intro r
      induction r with
      | nil => intro x; exact ⟨fun y hy => by simp at hy; subst hy; exact Int.le_refl _, by simp⟩
      | cons z r ih =>
        intro x
        rw [List.foldl_cons]
        obtain ⟨h1, h2⟩ := ih (if x < z then z else x)
        refine ⟨fun y hy => ?_, ?_⟩
        · have q := h1 (if x < z then z else x) (.head _)
          rcases List.mem_cons.mp hy with rfl | hy
          · split at q <;> split <;> omega
          · rcases List.mem_cons.mp hy with rfl | hy
            · split at q <;> split <;> omega
            · exact h1 y (.tail _ hy)
        · rcases List.mem_cons.mp h2 with q | q
          · rw [q]; split <;> simp
          · exact .tail _ (.tail _ q)
    obtain ⟨h1, h2⟩ := key r x
    rw [← e] at h1 h2
    have a1 := h1 k hk
    have a2 := hle m h2
    omega

section
variable {Mu : Addr → Prop} {H : Hp} {sw : Sw} {b : Bool}
theorem reads_flat {X : Cx} {pins : List (Addr × Obj)} {σ : L2.St} {s : Shared} (I : Inv X pins σ H s) {d : D} {v : V} {u : Value} (h : Rep Mu H v d) (r : RelV v u) (f : keyOk d = true) : ∃ as, Reads s.heap u d as ∧ as = [] := by
  have flat : ∀ {d : D} {v : V} {u : Value}, Rep Mu H v d → RelV v u → flatKey d = true → Reads s.heap u d [] := by
    intro d v u h r f
    cases d with
    | int i => cases h; obtain ⟨t, rfl⟩ := r; exact .int i t
    | str x => cases h; obtain ⟨t, rfl⟩ := r; exact .str x t
    | _ => simp [flatKey] at f
  have flats : ∀ {ds : List D} {vs : List V} {us : List Value}, RepAll Mu H vs ds → Vals vs us → ds.all flatKey = true → ReadsAll s.heap us ds [] := by
    intro ds
    induction ds with
    | nil => intro vs us h r _; cases h; cases r; exact .nil
    | cons d ds ih =>
      intro vs us h r f
      rw [List.all_cons, Bool.and_eq_true] at f
      cases h with
      | cons h1 h2 =>
        cases r with
        | cons r1 r2 => exact .cons (flat h1 r1 f.1) (ih h2 r2 f.2)
  cases d with
  | tuple ds =>
    cases h with
    | tup h2 h3 =>
      cases r
      obtain ⟨its, rv, ⟨o, ho, hc, n, hd⟩, _⟩ := I.tuple (SqT.of h2)
      exact ⟨_, Reads.tuple ho hc hd (flats h3 rv (by simpa [keyOk] using f)), rfl⟩
  | int i => exact ⟨_, flat h r rfl, rfl⟩
  | str i => exact ⟨_, flat h r rfl, rfl⟩
  | _ => simp [keyOk, flatKey] at f
theorem reads_keys {X : Cx} {pins : List (Addr × Obj)} {σ : L2.St} {s : Shared} (I : Inv X pins σ H s) : ∀ {ds : List D} {vs : List V} {us : List Value}, RepAll Mu H vs ds → Vals vs us → (∀ d ∈ ds, keyOk d = true) → ReadsAll s.heap us ds []
  | [], _, _, h, r, _ => by cases h; cases r; exact .nil
  | d :: ds, _, _, h, r, f => by
    cases h with
    | cons h1 h2 =>
      cases r with
      | cons r1 r2 =>
        obtain ⟨as, q, rfl⟩ := reads_flat I h1 r1 (f _ (.head _))
        exact .cons q (reads_keys I h2 r2 fun d hd => f d (.tail _ hd))
theorem keyOk_keyD (k : Key) : keyOk (keyD k) = true := by cases k <;> rfl
theorem keyOk_tkeyD (k : List Key) : keyOk (tkeyD k) = true := by
  show (k.map keyD).all flatKey = true
  rw [List.all_map, List.all_eq_true]
  intro x _
  cases x <;> rfl
theorem keysOk_K : ∀ {ks : List (Key × V)} {kvs : List (D × D)}, RepK Mu H ks kvs → ∀ d ∈ kvs.map (·.1), keyOk d = true
  | _, _, .nil, _, hd => nomatch hd
  | _, _, .cons h t, d, hd => by
    rcases List.mem_cons.mp hd with rfl | hd
    · exact keyOk_keyD _
    · exact keysOk_K t d hd
theorem keysOk_T : ∀ {ks : List (List Key × V)} {kvs : List (D × D)}, RepT Mu H ks kvs → ∀ d ∈ kvs.map (·.1), keyOk d = true
  | _, _, .nil, _, hd => nomatch hd
  | _, _, .cons h t, d, hd => by
    rcases List.mem_cons.mp hd with rfl | hd
    · exact keyOk_tkeyD _
    · exact keysOk_T t d hd
theorem keysOk_dict {v : V} {kvs : List (D × D)} (h : Rep Mu H v (.dict kvs)) : ∀ d ∈ kvs.map (·.1), keyOk d = true := by
  cases h with
  | dK _ _ r => exact keysOk_K r
  | dT _ _ _ r => exact keysOk_T r

mutual
/-- trees with dicts read off the heap as well -/
theorem reads_any {X : Cx} {pins : List (Addr × Obj)} {σ : L2.St} {s : Shared} (I : Inv X pins σ H s) : ∀ (d : D) (v : V) (u : Value), Rep Mu H v d → RelV v u → ∃ as, Reads s.heap u d as ∧ (hasL d = false → sysModules ∉ as)
  | .none, _, _, h, r => by cases h; cases r; exact ⟨_, .none, by simp⟩
  | .bool b, _, _, h, r => by cases h; cases r; exact ⟨_, .bool b, by simp⟩
  | .int i, _, _, h, r => by cases h; obtain ⟨t, rfl⟩ := r; exact ⟨_, .int i t, by simp⟩
  | .str x, _, _, h, r => by cases h; obtain ⟨t, rfl⟩ := r; exact ⟨_, .str x t, by simp⟩
  | .list ds, _, _, h, r => by
    cases h with
    | lst h1 h2 h3 =>
      cases r
      obtain ⟨its, rv, ⟨o, n, ho, hc, _, hd⟩, _⟩ := I.list (SqL.of h2)
      obtain ⟨as, hr, hs⟩ := reads_all I ds _ its h3 rv
      exact ⟨_, Reads.list ho hc hd hr, fun z => by simp [hasL] at z⟩
  | .tuple ds, _, _, h, r => by
    cases h with
    | tup h2 h3 =>
      cases r
      obtain ⟨its, rv, ⟨o, ho, hc, n, hd⟩, _⟩ := I.tuple (SqT.of h2)
      obtain ⟨as, hr, hs⟩ := reads_all I ds _ its h3 rv
      exact ⟨_, Reads.tuple ho hc hd hr, fun z => hs (by simpa [hasL] using z)⟩
  | .dict kvs, v, u, h, r => by
    have kk := keysOk_dict h
    obtain ⟨a, o, es, ep, rfl, h1, h2, h3, h4, h5, h6, ks, ws, e1, e2, e3, e4⟩ := dict_entries I (RepB.of (b := true) (sw := none) h)
    obtain rfl : u = Value.ref a := r
    obtain ⟨bs, hr, hs⟩ := reads_kv I kvs ws _ e4 e2
    have q1 := reads_keys I e3 e1 kk
    refine ⟨_, Reads.dict h1 h2.1 h3 q1 hr, fun z hm => ?_⟩
    have hm' : sysModules ∈ a :: bs := by simpa using hm
    rcases List.mem_cons.mp hm' with e | hm'
    · rw [← e] at h4
      simp at h4
    · exact hs (by simpa [hasL] using z) hm'
theorem reads_all {X : Cx} {pins : List (Addr × Obj)} {σ : L2.St} {s : Shared} (I : Inv X pins σ H s) : ∀ (ds : List D) (vs : List V) (us : List Value), RepAll Mu H vs ds → Vals vs us → ∃ as, ReadsAll s.heap us ds as ∧ (hasLAll ds = false → sysModules ∉ as)
  | [], _, _, h, r => by cases h; cases r; exact ⟨_, .nil, by simp⟩
  | d :: ds, _, _, h, r => by
    cases h with
    | cons h1 h2 =>
      cases r with
      | cons r1 r2 =>
        obtain ⟨as, q1, n1⟩ := reads_any I d _ _ h1 r1
        obtain ⟨bs, q2, n2⟩ := reads_all I ds _ _ h2 r2
        refine ⟨_, .cons q1 q2, fun z => ?_⟩
        rw [hasLAll, Bool.or_eq_false_iff] at z
        simp [n1 z.1, n2 z.2]
theorem reads_kv {X : Cx} {pins : List (Addr × Obj)} {σ : L2.St} {s : Shared} (I : Inv X pins σ H s) : ∀ (kvs : List (D × D)) (vs : List V) (us : List Value), RepAll Mu H vs (kvs.map (·.2)) → Vals vs us → ∃ as, ReadsAll s.heap us (kvs.map (·.2)) as ∧ (hasLKv kvs = false → sysModules ∉ as)
  | [], _, _, h, r => by cases h; cases r; exact ⟨_, .nil, by simp⟩
  | (k, d) :: ds, _, _, h, r => by
    cases h with
    | cons h1 h2 =>
      cases r with
      | cons r1 r2 =>
        obtain ⟨as, q1, n1⟩ := reads_any I d _ _ h1 r1
        obtain ⟨bs, q2, n2⟩ := reads_kv I ds _ _ h2 r2
        refine ⟨_, .cons q1 q2, fun z => ?_⟩
        rw [hasLKv, Bool.or_eq_false_iff] at z
        simp [n1 z.1, n2 z.2]
end
end
end Mp

set_option maxHeartbeats 4000000
/-! L2g: dicts made and changed, by trees; all built-in functions. -/
namespace Mp
open PySem L2 PyProof.Rows PySem.W

section
variable {Mu : Addr → Prop} {H : Hp} {sw : Sw} {b : Bool}

theorem RepK.any : ∀ {ks : List (Key × V)} {ds : List (D × D)}, RepK Mu H ks ds → ∀ k, (ks.any fun kv => decide (kv.1 = k)) = dhas ds (keyD k)
  | _, _, .nil, _ => rfl
  | _, _, .cons h t, k => by
    have ih := RepK.any t k
    unfold dhas at ih ⊢
    rw [List.any_cons, List.any_cons, ih, eqv_keyD]
theorem RepT.any : ∀ {ks : List (List Key × V)} {ds : List (D × D)}, RepT Mu H ks ds → ∀ k, (ks.any fun kv => decide (kv.1 = k)) = dhas ds (tkeyD k)
  | _, _, .nil, _ => rfl
  | _, _, .cons h t, k => by
    have ih := RepT.any t k
    unfold dhas at ih ⊢
    rw [List.any_cons, List.any_cons, ih, eqv_tkeyD]
theorem RepK.mapPut {v : V} {d : D} (hv : Rep Mu H v d) (k : Key) : ∀ {ks : List (Key × V)} {ds : List (D × D)}, RepK Mu H ks ds →
    RepK Mu H (ks.map fun kv => if kv.1 = k then (kv.1, v) else kv) (ds.map fun p => if p.1.eqv (keyD k) then (p.1, d) else p)
  | _, _, .nil => .nil
  | _, _, .cons (k := c) h t => by
    rw [List.map_cons, List.map_cons]
    by_cases e : c = k
    · have e2 : (keyD c).eqv (keyD k) = true := by rw [eqv_keyD]; exact decide_eq_true e
      rw [if_pos e, if_pos e2]
      exact .cons hv (RepK.mapPut hv k t)
    · have e2 : ¬ (keyD c).eqv (keyD k) = true := by rw [eqv_keyD]; simpa using e
      rw [if_neg e, if_neg e2]
      exact .cons h (RepK.mapPut hv k t)
theorem RepT.mapPut {v : V} {d : D} (hv : Rep Mu H v d) (k : List Key) : ∀ {ks : List (List Key × V)} {ds : List (D × D)}, RepT Mu H ks ds →
    RepT Mu H (ks.map fun kv => if kv.1 = k then (kv.1, v) else kv) (ds.map fun p => if p.1.eqv (tkeyD k) then (p.1, d) else p)
  | _, _, .nil => .nil
  | _, _, .cons (k := c) h t => by
    rw [List.map_cons, List.map_cons]
    by_cases e : c = k
    · have e2 : (tkeyD c).eqv (tkeyD k) = true := by rw [eqv_tkeyD]; exact decide_eq_true e
      rw [if_pos e, if_pos e2]
      exact .cons hv (RepT.mapPut hv k t)
    · have e2 : ¬ (tkeyD c).eqv (tkeyD k) = true := by rw [eqv_tkeyD]; simpa using e
      rw [if_neg e, if_neg e2]
      exact .cons h (RepT.mapPut hv k t)
theorem RepK.snoc {v : V} {d : D} (hv : Rep Mu H v d) (k : Key) : ∀ {ks : List (Key × V)} {ds : List (D × D)}, RepK Mu H ks ds → RepK Mu H (ks ++ [(k, v)]) (ds ++ [(keyD k, d)])
  | _, _, .nil => .cons hv .nil
  | _, _, .cons h t => .cons h (RepK.snoc hv k t)
theorem RepT.snoc {v : V} {d : D} (hv : Rep Mu H v d) (k : List Key) : ∀ {ks : List (List Key × V)} {ds : List (D × D)}, RepT Mu H ks ds → RepT Mu H (ks ++ [(k, v)]) (ds ++ [(tkeyD k, d)])
  | _, _, .nil => .cons hv .nil
  | _, _, .cons h t => .cons h (RepT.snoc hv k t)
theorem RepK.put {v : V} {d : D} {ks : List (Key × V)} {ds : List (D × D)} (h : RepK Mu H ks ds) (k : Key) (hv : Rep Mu H v d) : RepK Mu H (putK ks k v) (dput ds (keyD k) d) := by
  unfold putK dput
  rw [h.any k]
  split
  · exact h.mapPut hv k
  · exact h.snoc hv k
theorem RepT.put {v : V} {d : D} {ks : List (List Key × V)} {ds : List (D × D)} (h : RepT Mu H ks ds) (k : List Key) (hv : Rep Mu H v d) : RepT Mu H (putK ks k v) (dput ds (tkeyD k) d) := by
  unfold putK dput
  rw [h.any k]
  split
  · exact h.mapPut hv k
  · exact h.snoc hv k
theorem RepK.length : ∀ {ks : List (Key × V)} {ds : List (D × D)}, RepK Mu H ks ds → ks.length = ds.length
  | _, _, .nil => rfl
  | _, _, .cons _ t => by rw [List.length_cons, List.length_cons, RepK.length t]
theorem RepT.length : ∀ {ks : List (List Key × V)} {ds : List (D × D)}, RepT Mu H ks ds → ks.length = ds.length
  | _, _, .nil => rfl
  | _, _, .cons _ t => by rw [List.length_cons, List.length_cons, RepT.length t]

/-- stored one behind the other -/
theorem RepK.puts : ∀ {more : List (Key × V)} {ks : List (Key × V)} {ds md es : List (D × D)}, RepK Mu H ks ds → RepK Mu H more md → dputs ds md = some es → RepK Mu H (mergeK ks more) es
  | _, _, _, _, _, h, .nil, e => by cases e; exact h
  | _, ks, ds, _, es, h, .cons (k := k) (v := v) hv t, e => by
    unfold dputs at e
    split at e
    · have z := RepK.puts (h.put k hv) t e
      exact z
    · cases e
end

/-! ### pairs -/
section
variable {Mu : Addr → Prop} {H : Hp}
/-- items that are pairs of two -/
theorem asPairs_rep : ∀ {ws : List V} {ps : List D} {kvs : List (D × D)}, RepAll Mu H ws ps → asPairs ps = some kvs →
    ∃ as : List Addr, ws = as.map V.ref ∧ Paired (fun a (q : D × D) => ∃ x y, H a = some (.tup [x, y]) ∧ Rep Mu H x q.1 ∧ Rep Mu H y q.2) as kvs
  | _, _, _, .nil, e => by cases e; exact ⟨[], rfl, .nil⟩
  | _, _, kvs, .cons (d := d) h t, e => by
    cases d with
    | tuple ds =>
      match ds, h, e with
      | [a, b], h, e =>
        unfold asPairs at e
        obtain ⟨r, h1, h2⟩ := Option.map_eq_some_iff.mp e
        subst h2
        obtain ⟨as, e1, e2⟩ := asPairs_rep t h1
        cases h with
        | tup h2 h3 =>
          cases h3 with
          | cons q1 q2 =>
            cases q2 with
            | cons q3 q4 =>
              cases q4
              exact ⟨_ :: as, by rw [e1]; rfl, .cons ⟨_, _, h2, q1, q3⟩ e2⟩
      | [], _, e => cases e
      | [_], _, e => cases e
      | _ :: _ :: _ :: _, _, e => cases e
    | _ => cases e

theorem dputs_fits : ∀ {md ds es : List (D × D)}, dputs ds md = some es → ∀ p ∈ md, keyOk p.1 = true
  | [], _, _, _, _, hp => nomatch hp
  | (k, v) :: r, ds, es, e, p, hp => by
    unfold dputs at e
    split at e
    · rename_i hc
      rw [Bool.and_eq_true] at hc
      rcases List.mem_cons.mp hp with rfl | hp
      · exact keyFits_ok hc.1
      · exact dputs_fits e p hp
    · cases e
/-- all keys are of the kind of the keys that are there -/
theorem dputs_kind : ∀ {md ds es : List (D × D)} {c : Bool}, dputs ds md = some es → ds ≠ [] → (∀ p ∈ ds, isTupKey p.1 = c) → ∀ p ∈ md, isTupKey p.1 = c
  | [], _, _, _, _, _, _, _, hp => nomatch hp
  | (k, v) :: r, ds, es, c, e, hne, hk, p, hp => by
    unfold dputs at e
    split at e
    · rename_i hc
      rw [Bool.and_eq_true] at hc
      have hkc : isTupKey k = c := by
        have z := hc.1
        unfold keyFits at z
        rw [Bool.and_eq_true] at z
        cases ds with
        | nil => exact absurd rfl hne
        | cons q ds =>
          have z2 := z.2
          rw [List.all_cons, Bool.and_eq_true, beq_iff_eq] at z2
          rw [← z2.1]
          exact hk q (.head _)
      rcases List.mem_cons.mp hp with rfl | hp
      · exact hkc
      · refine dputs_kind e ?_ ?_ p hp
        · unfold dput
          split
          · cases ds with
            | nil => exact absurd rfl hne
            | cons q ds => simp
          · simp
        · intro q hq
          unfold dput at hq
          split at hq
          · obtain ⟨q', hq', rfl⟩ := List.mem_map.mp hq
            split
            · exact hk q' hq'
            · exact hk q' hq'
          · rcases List.mem_append.mp hq with hq | hq
            · exact hk q hq
            · rw [List.mem_singleton.mp hq]
              exact hkc
    · cases e
theorem dputs_kinds {md es : List (D × D)} (e : dputs [] md = some es) : (∀ p ∈ md, isTupKey p.1 = false) ∨ (∀ p ∈ md, isTupKey p.1 = true) := by
  cases md with
  | nil => exact .inl fun _ hp => nomatch hp
  | cons p r =>
    obtain ⟨k, v⟩ := p
    have e' := e
    unfold dputs at e'
    split at e'
    · have key : ∀ q ∈ r, isTupKey q.1 = isTupKey k := dputs_kind (c := isTupKey k) e' (by unfold dput dhas; simp) (by
        intro q hq
        unfold dput dhas at hq
        simp at hq
        rw [hq])
      cases h : isTupKey k with
      | true =>
        refine .inr fun q hq => ?_
        rcases List.mem_cons.mp hq with rfl | hq
        · exact h
        · rw [key q hq, h]
      | false =>
        refine .inl fun q hq => ?_
        rcases List.mem_cons.mp hq with rfl | hq
        · exact h
        · rw [key q hq, h]
    · cases e'

theorem dput_ne (kvs : List (D × D)) (k v : D) : dput kvs k v ≠ [] := by
  unfold dput
  split
  · rename_i h
    cases kvs with
    | nil => simp [dhas] at h
    | cons q r => simp
  · simp
theorem dputs_ne : ∀ {md ds es : List (D × D)}, dputs ds md = some es → (ds ≠ [] ∨ md ≠ []) → es ≠ []
  | [], ds, es, e, h => by
    cases e
    rcases h with h | h
    · exact h
    · exact absurd rfl h
  | (k, v) :: r, ds, es, e, _ => by
    unfold dputs at e
    split at e
    · exact dputs_ne e (.inl (dput_ne ds k v))
    · cases e
theorem dputs_kindsN {md es : List (D × D)} (e : dputs [] md = some es) : (∀ p ∈ md, isTupKey p.1 = false) ∨ (es ≠ [] ∧ ∀ p ∈ md, isTupKey p.1 = true) := by
  by_cases h : md = []
  · exact .inl fun p hp => by rw [h] at hp; cases hp
  · exact (dputs_kinds e).imp id fun k => ⟨dputs_ne e (.inr h), k⟩

/-- pairs whose keys are numbers or texts; tuples of such -/
theorem pairsK : ∀ {as : List Addr} {kvs : List (D × D)}, Paired (fun a (q : D × D) => ∃ x y, H a = some (.tup [x, y]) ∧ Rep Mu H x q.1 ∧ Rep Mu H y q.2) as kvs → (∀ p ∈ kvs, keyOk p.1 = true ∧ isTupKey p.1 = false) →
    ∃ ks : List (Key × V), Paired (fun a (q : Key × V) => H a = some (.tup [kV q.1, q.2])) as ks ∧ RepK Mu H ks kvs
  | _, _, .nil, _ => ⟨[], .nil, .nil⟩
  | _, _, .cons (b := q) ⟨x, y, h1, h2, h3⟩ t, hk => by
    obtain ⟨ks, e1, e2⟩ := pairsK t fun p hp => hk p (.tail _ hp)
    obtain ⟨kd, d⟩ := q
    rcases key_cases (RepB.of (b := true) (sw := none) h2) (hk _ (.head _)).1 with ⟨c, rfl, rfl⟩ | ⟨cs, a, rfl, _, _⟩
    · exact ⟨(c, y) :: ks, .cons h1 e1, .cons h3 e2⟩
    · have := (hk _ (.head _)).2
      cases this
theorem pairsT : ∀ {as : List Addr} {kvs : List (D × D)}, Paired (fun a (q : D × D) => ∃ x y, H a = some (.tup [x, y]) ∧ Rep Mu H x q.1 ∧ Rep Mu H y q.2) as kvs → (∀ p ∈ kvs, keyOk p.1 = true ∧ isTupKey p.1 = true) →
    ∃ ks : List (List Key × Addr × V), Paired (fun a (q : List Key × Addr × V) => H a = some (.tup [.ref q.2.1, q.2.2]) ∧ H q.2.1 = some (.tup (q.1.map kV))) as ks ∧ RepT Mu H (ks.map fun q => (q.1, q.2.2)) kvs
  | _, _, .nil, _ => ⟨[], .nil, .nil⟩
  | _, _, .cons (b := q) ⟨x, y, h1, h2, h3⟩ t, hk => by
    obtain ⟨ks, e1, e2⟩ := pairsT t fun p hp => hk p (.tail _ hp)
    obtain ⟨kd, d⟩ := q
    rcases key_cases (RepB.of (b := true) (sw := none) h2) (hk _ (.head _)).1 with ⟨c, rfl, rfl⟩ | ⟨cs, a, rfl, rfl, ha⟩
    · have := (hk _ (.head _)).2
      rw [show isTupKey (keyD c) = false from isTup_keyD c] at this
      cases this
    · exact ⟨(cs, a, y) :: ks, .cons ⟨h1, ha⟩ e1, .cons h3 e2⟩
end

/-- stored one behind the other, keys that are tuples -/
theorem KT.puts {H : Hp} : ∀ {ps : List (List Key × Addr × Value)} {qs : List (List Key × Addr × V)} {kvs : List (List Key × V)} {xs : List (List Key × Addr × Value)},
    Paired (fun (q : List Key × Addr × V) (p : List Key × Addr × Value) => q.1 = p.1 ∧ q.2.1 = p.2.1 ∧ H q.2.1 = some (.tup (q.1.map kV)) ∧ RelV q.2.2 p.2.2) qs ps → KT H kvs xs →
    KT H (qs.foldl (fun acc q => putK acc q.1 q.2.2) kvs) (storedAllH xs ps)
  | _, _, _, _, .nil, h => h
  | _, _, kvs, xs, .cons (a := q) (b := p) ⟨e1, e2, e3, e4⟩ t, h => by
    obtain ⟨a, b, c⟩ := q
    obtain ⟨a', b', c'⟩ := p
    simp only at e1 e2 e3 e4
    subst e1 e2
    have z := KT.puts t (h.put a e3 e4)
    exact z
theorem RepT.puts {Mu : Addr → Prop} {H : Hp} : ∀ {more : List (List Key × Addr × V)} {ks : List (List Key × V)} {ds md es : List (D × D)}, RepT Mu H ks ds → RepT Mu H (more.map fun q => (q.1, q.2.2)) md → dputs ds md = some es →
    RepT Mu H (more.foldl (fun acc q => putK acc q.1 q.2.2) ks) es
  | [], _, _, _, _, h, r, e => by
    cases r
    cases e
    exact h
  | q :: more, ks, ds, _, es, h, r, e => by
    rw [List.map_cons] at r
    cases r with
    | cons hv t =>
      unfold dputs at e
      split at e
      · have z := RepT.puts (h.put q.1 hv) t e
        exact z
      · cases e
theorem puts_len {κ : Type} [DecidableEq κ] {α : Type} (f : α → κ) (g : α → V) : ∀ (more : List α) (ks : List (κ × V)), (more.foldl (fun acc q => putK acc (f q) (g q)) ks).length ≤ ks.length + more.length
  | [], _ => Nat.le_refl _
  | q :: r, ks => by
    rw [List.foldl_cons]
    refine Nat.le_trans (puts_len f g r _) ?_
    have := length_putK ks (f q) (g q)
    rw [List.length_cons]
    omega

section
variable {X : Cx}
/-- dict(xs) of pairs whose keys are tuples -/
theorem call_dictT (hc : X.calm = true) (hu : X.A.units + 100 < cLine) {pins : List (Addr × Obj)} {σ : L2.St} {H : Hp} {s : Shared} {a : Addr} {as : List Addr} {ks : List (List Key × Addr × V)} {Q : VK}
    (I : Inv X pins σ H s) (ha : H a = some (.lst (as.map V.ref))) (hp : Paired (fun a (q : List Key × Addr × V) => H a = some (.tup [.ref q.2.1, q.2.2]) ∧ H q.2.1 = some (.tup (q.1.map kV))) as ks)
    (q : ∀ p, H p = none → Q (.ref p) (upd H p (.dT (ks.foldl (fun acc q => putK acc q.1 q.2.2) [])))) : wpAny (model X.prog X.w) X.A (call (.type "dict") [.ref a]) (EP X pins σ Q) X.xe s := by
  obtain ⟨its, rv, pl, hz⟩ := I.list (SqL.of ha)
  have ei := refs_at rv
  subst ei
  obtain ⟨o, n, ho, hcl, hd, hdat⟩ := pl
  -- the pairs of the heap
  have key : ∀ {as : List Addr} {ks : List (List Key × Addr × V)}, Paired (fun a (q : List Key × Addr × V) => H a = some (.tup [.ref q.2.1, q.2.2]) ∧ H q.2.1 = some (.tup (q.1.map kV))) as ks →
      ∃ ps : List (List Key × Addr × Value), Paired (fun (q : List Key × Addr × V) (p : List Key × Addr × Value) => q.1 = p.1 ∧ q.2.1 = p.2.1 ∧ H q.2.1 = some (.tup (q.1.map kV)) ∧ RelV q.2.2 p.2.2) ks ps ∧ ps.length = as.length ∧
        ∀ (j : Nat) (p : List Key × Addr × Value), ps[j]? = some p → ∃ c : Addr, as[j]? = some c ∧ s.heap.IsTuple c #[.ref p.2.1, p.2.2] := by
    intro as ks h
    induction h with
    | nil => exact ⟨[], .nil, rfl, fun j p e => by simp at e⟩
    | @cons c q cs qs hq t ih =>
      obtain ⟨ps, e1, e2, e3⟩ := ih
      obtain ⟨its, rv, pt, _⟩ := I.tuple (SqT.of hq.1)
      obtain ⟨u, y, ei, ru, ry⟩ := vals2 rv
      subst ei
      obtain rfl : u = Value.ref q.2.1 := ru
      refine ⟨(q.1, q.2.1, y) :: ps, .cons ⟨rfl, rfl, hq.2, ry⟩ e1, by rw [List.length_cons, List.length_cons, e2], fun j p e => ?_⟩
      cases j with
      | zero =>
        have e' : (q.1, q.2.1, y) = p := Option.some.inj e
        subst e'
        exact ⟨c, rfl, pt⟩
      | succ j =>
        obtain ⟨c', h1, h2⟩ := e3 j p (by simpa using e)
        exact ⟨c', by simpa using h1, h2⟩
  obtain ⟨ps, p1, p2, p3⟩ := key hp
  have ls : ks.length = ps.length := Paired.length p1
  have hlen : as.length ≤ sizeLine := by rw [List.length_map] at hz; exact hz
  refine PySem.call_dict_pairsH (knd := tupleKind (mixKind X.prog X.w)) (ps := ps) (PySem.PairArg.list (prog := X.prog) (w := X.w) a (as.map Value.ref).toArray (fun j => as.getD j 0) (ps.map fun (p : List Key × Addr × Value) => (Value.ref p.2.1, p.2.2))) (I.ok.hd hc)
    (tupleKind_room_in1 (by show X.A.units + 1 + 1 < cLine; omega)) ⟨⟨o, n, ho, hcl, hd, hdat⟩, by simp [p2], fun j k v e => ?_⟩ ⟨by simp, fun i k v e => ?_⟩ (fun h' hk x hx => ?_) (by rw [List.length_map, p2]; exact hlen) fun h' tk hd' hk => ?_
  · obtain ⟨p, hp, ep⟩ : ∃ p : List Key × Addr × Value, ps[j]? = some p ∧ (Value.ref p.2.1, p.2.2) = (k, v) := by
      rw [List.getElem?_map] at e
      exact Option.map_eq_some_iff.mp e
    cases ep
    obtain ⟨c, h1, h2⟩ := p3 j p hp
    refine ⟨by simp [h1, List.getD], .inl ?_⟩
    have : as.getD j 0 = c := by simp [List.getD, h1]
    show s.heap.IsTuple (as.getD j 0) _
    rw [this]
    exact h2
  · obtain ⟨p, hp, ep⟩ : ∃ p, ps[i]? = some p ∧ (Value.ref p.2.1, p.2.2) = (k, v) := by
      have e' : (ps.map fun (p : List Key × Addr × Value) => (Value.ref p.2.1, p.2.2))[i]? = some (k, v) := e
      rw [List.getElem?_map] at e'
      exact Option.map_eq_some_iff.mp e'
    cases ep
    exact ⟨p.1, p.2.1, hp, rfl⟩
  · have : ∀ {ks : List (List Key × Addr × V)} {ps : List (List Key × Addr × Value)}, Paired (fun (q : List Key × Addr × V) (p : List Key × Addr × Value) => q.1 = p.1 ∧ q.2.1 = p.2.1 ∧ H q.2.1 = some (.tup (q.1.map kV)) ∧ RelV q.2.2 p.2.2) ks ps →
        ∀ x ∈ ps, H x.2.1 = some (.tup (x.1.map kV)) := by
      intro ks ps h
      induction h with
      | nil => intro x hx; cases hx
      | cons hq t ih =>
        intro x hx
        rcases List.mem_cons.mp hx with rfl | hx
        · rw [← hq.1, ← hq.2.1]; exact hq.2.2.1
        · exact ih x hx
    obtain ⟨ob, its, n2, k1, k2, k3, k4⟩ := key_of (P := X.prog) (w := X.w) I.hok (this p1 x hx)
    exact ⟨ob, its, n2, hk _ _ (Nat.ne_of_lt (Heap.lt_size k1)) (by simp) k1, k2, k3, k4⟩
  · have k : ∀ b o, s.heap.get? b = some o → h'.get? b = some o := fun b o e => hk b o (by simp) e
    have I1 : Inv X pins σ H { s with heap := h', toks := tk } := I.kept k
    have hfr : H s.heap.objs.size = none := I.hok.fresh (Nat.le_refl _)
    have hm : (s.heap.objs.size == sysModules) = false := beq_eq_false_iff_ne.mpr (Nat.ne_of_gt I.big)
    have hl := puts_len (fun q : List Key × Addr × V => q.1) (fun q => q.2.2) ks []
    obtain ⟨od, es, ep, g1, g2, g3, g4, _, g5⟩ := hd'
    have kt : KT (upd H s.heap.objs.size (.dT (ks.foldl (fun acc q => putK acc q.1 q.2.2) []))) (ks.foldl (fun acc q => putK acc q.1 q.2.2) []) (storedAllH [] ps) :=
      KT.keeps (KT.puts p1 (kvs := []) (xs := []) .nil) fun b ys e => by rw [upd_ne (ne_of_none e hfr)]; exact e
    exact ⟨.ref s.heap.objs.size, upd H s.heap.objs.size (.dT (ks.foldl (fun acc q => putK acc q.1 q.2.2) [])), I.laid (t' := tk) k (Nat.le_refl _) ⟨by
      rw [List.length_nil] at hl
      omega, hm, storedAllH [] ps, kt, od, es, ep, g1, g2, g3, g4, g5⟩, rfl, q _ hfr⟩
end
end Mp

set_option maxHeartbeats 4000000
/-! L2gg: dict(d), keys that are rows of numbers. -/
namespace Mp
open PySem L2 PyProof.Rows PySem.W

section
variable {prog : Program} {w : World} {K : Type} [DecidableEq K] {knd : HeapKind prog w K} {A : Around} {E : Value → Shared → Prop} {s : Shared}
theorem call_dictH {o : Addr} {more : List (K × Addr × Value)} {Q : Value → Shared → Prop} (hu : knd.room A.in1.in1) (hoS : (o == sysModules) = false) (hdo : s.heap.objs.size ≠ o)
    (hd : (s.heap.push { cls := .type "dict", data := .dict #[] }).DictOfH knd s.heap.objs.size []) (ho : (s.heap.push { cls := .type "dict", data := .dict #[] }).DictOfH knd o more)
    (hap : (∀ x ∈ more, ({ s with heap := s.heap.push { cls := .type "dict", data := .dict #[] } } : Shared).TypeIs (.ref x.2.1) "tuple") ∧ (more.map fun x => knd.hash x.1).Nodup) (hsz : more.length ≤ sizeLine)
    (h : ∀ h', h'.DictOfH knd s.heap.objs.size more → Heap.SameBut s.heap.objs.size (s.heap.push { cls := .type "dict", data := .dict #[] }) h' → Q (.ref s.heap.objs.size) { s with heap := h' }) :
    wpAny (model prog w) A (call (.type "dict") [.ref o]) Q E s := by
  refine callType_codes (Q₁ := fun obj s₁ => obj = .ref s.heap.objs.size ∧ s₁ = { s with heap := s.heap.push { cls := .type "dict", data := .dict #[] } }) F.kt_called_dict (F.kt_typeCall_dict_1 _) F.entry_dict_init (kt_code_dict_new _ ⟨rfl, rfl⟩) ?_
  rintro obj s₁ ⟨rfl, rfl⟩
  refine ⟨hd.typeIs, F.args_dict_init_2 _ _, ?_⟩
  unfold Builtin.«dict.__init__»
  refine wpAny_bind ?_
  unfold Builtin.Dict.selfAndRest
  refine wpAny_bind (wpAny_notOrdered_dict hd.typeIs ?_)
  show wpAny _ _ (pure (s.heap.objs.size, [Value.ref o])) _ _ _
  refine wpAny_pure ?_
  show wpAny _ _ (Builtin.Dict.updateFrom "dict.__init__" s.heap.objs.size (.ref o) [] .none) _ _ _
  refine updateFrom_dictH .none hu hdo hoS hd ho (.inr hap) (by simpa using hsz) fun h' hd' ho' hs' => ?_
  rw [storedAllH_nil_of_nodup more ho.nodup] at hd'
  exact ⟨rfl, h h' hd' hs'⟩
end

theorem asInts_keys : ∀ (ks : List Key) (ns : List Int), asInts (ks.map keyD) = some ns → ks = ns.map Sum.inl
  | [], ns, h => by cases h; rfl
  | .inl i :: ks, ns, h => by
    obtain ⟨ms, h1, rfl⟩ := Option.map_eq_some_iff.mp (show (asInts (ks.map keyD)).map (i :: ·) = some ns from h)
    rw [List.map_cons, ← asInts_keys ks ms h1]
  | .inr x :: ks, ns, h => by cases (show (none : Option (List Int)) = some ns from h)
theorem rowsOf_T {Mu : Addr → Prop} {H : Hp} : ∀ {ks : List (List Key × V)} {kvs : List (D × D)} {nss : List (List Int)}, RepT Mu H ks kvs → rowsOf kvs = some nss → ks.map (·.1) = nss.map fun ns => ns.map Sum.inl
  | _, _, nss, .nil, h => by cases h; rfl
  | _, _, nss, .cons (k := k) hv t, h => by
    obtain ⟨ns, h1, h2⟩ := Option.bind_eq_some_iff.mp (show (rowOf (tkeyD k)).bind _ = some nss from h)
    obtain ⟨ms, h3, rfl⟩ := Option.map_eq_some_iff.mp h2
    rw [List.map_cons, List.map_cons, ← rowsOf_T t h3, asInts_keys k ns h1]
theorem hash_rows {P : Program} {w : World} (ns : List Int) : tupleKeyHash (mixKind P w) (ns.map Sum.inl) = thash ns := by
  unfold tupleKeyHash thash
  rw [List.map_map]
  rfl

theorem call_dictDT {X : Cx} {pins : List (Addr × Obj)} {σ : L2.St} {H : Hp} {s : Shared} {a : Addr} {kvs : List (List Key × V)} {Q : VK} (hu : X.A.units + 100 < cLine) (I : Inv X pins σ H s) (hd : Rd H a (.dT kvs)) (nd : ((kvs.map (·.1)).map (tupleKeyHash (mixKind X.prog X.w))).Nodup)
    (q : ∀ p, H p = none → Q (.ref p) (upd H p (.dT kvs))) : wpAny (model X.prog X.w) X.A (call (.type "dict") [.ref a]) (EP X pins σ Q) X.xe s := by
  have hn := I.hok.fresh (Nat.le_refl s.heap.objs.size)
  have I1 := I.laid (a := s.heap.objs.size) (o := .dT []) (h' := s.heap.push { cls := .type "dict", data := .dict #[] }) (t' := s.toks) (fun _ _ q => Heap.get?_push_of_some _ q) (Nat.le_refl _) (dt_empty s.heap I.big)
  have ne : a ≠ s.heap.objs.size := fun z => by
    rcases hd with hd | ⟨o, hd⟩ <;> (rw [z, hn] at hd; cases hd)
  have hd1 : Rd (upd H s.heap.objs.size (.dT [])) a (.dT kvs) := by
    rcases hd with hd | ⟨o, hd⟩
    · exact .inl (by rw [upd_ne ne]; exact hd)
    · exact .inr ⟨o, by rw [upd_ne ne]; exact hd⟩
  obtain ⟨z0, hm, xs0, r0, dd0⟩ := dt_of I1.hok upd_same
  cases r0
  obtain ⟨z, lo, xs, rel, dd⟩ := dt_rd I1.hok hd1
  have keys : ∀ {l : List (List Key × V)} {m : List (List Key × Addr × Value)}, KT (upd H s.heap.objs.size (.dT [])) l m → l.map (·.1) = m.map (·.1) := by
    intro l m h
    induction h with
    | nil => rfl
    | cons h t ih => rw [List.map_cons, List.map_cons, ih, h.1]
  have tys : ∀ {l : List (List Key × V)} {m : List (List Key × Addr × Value)}, KT (upd H s.heap.objs.size (.dT [])) l m → ∀ x ∈ m, ({ s with heap := s.heap.push { cls := .type "dict", data := .dict #[] } } : Shared).TypeIs (.ref x.2.1) "tuple" := by
    intro l m h
    induction h with
    | nil => intro x hx; cases hx
    | cons h t ih =>
      intro x hx
      rcases List.mem_cons.mp hx with rfl | hx
      · exact IsTupleKey.typeIs (key_of I1.hok h.2.1)
      · exact ih x hx
  refine call_dictH (knd := tupleKind (mixKind X.prog X.w)) (show X.A.units + 1 + 1 < cLine by omega) lo ne.symm dd0 dd ⟨tys rel, ?_⟩ (by rw [← Paired.length rel]; exact z) fun h' d' hs => ?_
  · have : (xs.map fun x => tupleKeyHash (mixKind X.prog X.w) x.1) = (kvs.map (·.1)).map (tupleKeyHash (mixKind X.prog X.w)) := by
      rw [keys rel, List.map_map]
      rfl
    exact this ▸ nd
  · obtain ⟨o, es, ep, hq, h2, h3, h4, _, h5⟩ := d'
    have eH : upd (upd H s.heap.objs.size (.dT [])) s.heap.objs.size (.dT kvs) = upd H s.heap.objs.size (.dT kvs) := by
      funext c
      by_cases e : c = s.heap.objs.size
      · subst e; rw [upd_same, upd_same]
      · rw [upd_ne e, upd_ne e, upd_ne e]
    have new : ObjOk X.prog X.w (upd (upd H s.heap.objs.size (.dT [])) s.heap.objs.size (.dT kvs)) h' s.heap.objs.size (.dT kvs) :=
      ⟨z, hm, xs, KT.keeps rel fun c ys ec => by rw [upd_ne (fun e => by rw [e, upd_same] at ec; cases ec)]; exact ec, o, es, ep, hq, h2, h3, h4, h5⟩
    have I2 := d_write (t' := s.toks) I1 (by rw [upd_same]; exact True.intro) hs ⟨o, hq⟩ new
    rw [eH] at I2
    exact ⟨.ref s.heap.objs.size, _, I2, rfl, q _ hn⟩
end Mp

set_option maxHeartbeats 4000000
/-! L2h: all built-in functions by trees. -/
namespace Mp
open PySem L2 PyProof.Rows PySem.W

section
variable {X : Cx} {sw : Sw}

theorem asPairs_keys : ∀ {ps : List D} {kvs : List (D × D)}, asPairs ps = some kvs → True := fun _ => trivial

theorem bf_len {pins : List (Addr × Obj)} {s : Shared} {σ : L2.St} {H : Hp} {Mu : Addr → Prop} {x : V} {u : Value} {d0 d : D} {Q : VK} (I : Inv X pins σ H s) (rx : RelV x u) (hx : RepB true sw Mu H x d0) (e : bf .len [d0] = some d) (q : Res Mu H d Q) :
    wpAny (model X.prog X.w) X.A (call (.builtin "len") [u]) (EP X pins σ Q) X.xe s := by
  have fl : ∀ {k : Int}, d = .int k → Q (.int k) H := fun {k} ek => by
    subst ek
    exact q.flat (.int k) rfl
  cases d0 with
  | list xs =>
    obtain ⟨a, vs, rfl, ha, ra⟩ := hx.list
    refine call_len_seq pins s σ H _ _ Q I (.cons rx .nil) ⟨a, vs, rfl, .inl (SqL.of ha), ?_⟩
    rw [ra.length]
    exact fl (Option.some.inj e).symm
  | tuple xs =>
    obtain ⟨a, vs, rfl, ha, ra⟩ := hx.tuple
    refine call_len_seq pins s σ H _ _ Q I (.cons rx .nil) ⟨a, vs, rfl, .inr (SqT.of ha), ?_⟩
    rw [ra.length]
    exact fl (Option.some.inj e).symm
  | dict kvs =>
    have q' := fl (Option.some.inj e).symm
    obtain ⟨a, rfl, hh⟩ := hx.dict
    obtain rfl : u = Value.ref a := rx
    rcases hh with ⟨ks, h, r⟩ | ⟨ks, h, r⟩
    · obtain ⟨z, y, vs, rel, dd⟩ := dk_rd I.hok h
      have l1 : vs.length = kvs.length := by rw [← r.length, Paired.length rel]
      have l2 : vs.length ≤ sizeLine := by rw [← Paired.length rel]; exact z
      refine call_len_dict y dd (by unfold sizeLine at l2; omega) ⟨.int kvs.length, H, I.tok _, ⟨_, by rw [l1]⟩, q'⟩
    · obtain ⟨z, y, vs, rel, dd⟩ := dt_rd I.hok h
      have l1 : vs.length = kvs.length := by rw [← r.length, Paired.length rel]
      have l2 : vs.length ≤ sizeLine := by rw [← Paired.length rel]; exact z
      refine call_len_dictH y dd (by unfold sizeLine at l2; omega) ⟨.int kvs.length, H, I.tok _, ⟨_, by rw [l1]⟩, q'⟩
  | _ => cases e

theorem bf_list {pins : List (Addr × Obj)} {s : Shared} {σ : L2.St} {H : Hp} {Mu : Addr → Prop} {x : V} {u : Value} {d0 d : D} {Q : VK} (hc : X.calm = true) (I : Inv X pins σ H s) (dom : ∀ a, Mu a → H a ≠ none) (rx : RelV x u) (hx : RepB true sw Mu H x d0) (e : bf .list [d0] = some d) (q : Res Mu H d Q) :
    wpAny (model X.prog X.w) X.A (call (.type "list") [u]) (EP X pins σ Q) X.xe s := by
  cases d0 with
  | list xs =>
    obtain ⟨a, vs, rfl, ha, ra⟩ := hx.list
    obtain rfl := Option.some.inj e
    exact call_list_of pins s σ H _ _ Q I (.cons rx .nil) ⟨a, vs, rfl, .inl (SqL.of ha), fun l hl => q.newL dom ra l hl⟩
  | tuple xs =>
    obtain ⟨a, vs, rfl, ha, ra⟩ := hx.tuple
    obtain rfl := Option.some.inj e
    exact call_list_of pins s σ H _ _ Q I (.cons rx .nil) ⟨a, vs, rfl, .inr (SqT.of ha), fun l hl => q.newL dom ra l hl⟩
  | dict kvs =>
    obtain rfl := Option.some.inj e
    obtain ⟨a, o, es, ep, rfl, h1, h2, h3, h4, h5, h6, ks, ws, e1, e2, e3, e4⟩ := dict_entries I hx
    obtain rfl : u = Value.ref a := rx
    refine kdl_call (KdlSrc.rawDict (prog := X.prog) (w := X.w) (es := es) (ep := ep) h4) (I.ok.hd hc) ⟨o, h1, h2, h3⟩ h5 fun h' tk acc c' hk hob hacc => ?_
    have ea : acc.toList = es.toList.map (·.key) := by
      apply List.ext_getElem?
      intro j
      rw [List.getElem?_map]
      cases hj : acc.toList[j]? with
      | none =>
        have q1 := List.getElem?_eq_none_iff.mp hj
        have q2 : es.toList[j]? = none := List.getElem?_eq_none_iff.mpr (by rw [Array.length_toList] at q1 ⊢; rw [hacc.1] at q1; exact q1)
        rw [q2]; rfl
      | some v =>
        obtain ⟨hi, ev⟩ := hacc.2 j v (by rw [← Array.getElem?_toList]; exact hj)
        have q2 : es.toList[j]? = some es[j] := by rw [Array.getElem?_toList]; exact Array.getElem?_eq_getElem hi
        rw [q2, ev]; rfl
    have l1 : ks.length = es.size := by rw [e1.length, List.length_map, Array.length_toList]
    have hfr := I.hok.fresh (Nat.le_refl s.heap.objs.size)
    refine ⟨.ref s.heap.objs.size, upd H s.heap.objs.size (.lst ks), I.laid (t' := tk) hk (Nat.le_refl _) ⟨by rw [l1]; exact h5, acc.toList, c', by rw [ea]; exact e1, by simpa using hob⟩, rfl, q.newL dom e3 _ hfr⟩
  | _ => cases e

theorem bf_dict {pins : List (Addr × Obj)} {s : Shared} {σ : L2.St} {H : Hp} {Mu : Addr → Prop} {x : V} {u : Value} {d0 d : D} {Q : VK} (hc : X.calm = true) (hu : X.A.units + 100 < cLine) (I : Inv X pins σ H s) (dom : ∀ a, Mu a → H a ≠ none) (rx : RelV x u) (hx : RepB true sw Mu H x d0) (e : bf .dict [d0] = some d) (q : Res Mu H d Q) :
    wpAny (model X.prog X.w) X.A (call (.type "dict") [u]) (EP X pins σ Q) X.xe s := by
  cases d0 with
  | dict kvs =>
    have e' : (if ((kvs.all (fun p => !isTupKey p.1) || hashOk kvs) && !kvs.isEmpty) = true then some (PyData.dict kvs) else none) = some d := e
    split at e'
    · rename_i hcnd
      obtain rfl := Option.some.inj e'
      rw [Bool.and_eq_true, Bool.or_eq_true] at hcnd
      obtain ⟨a, rfl, hh⟩ := hx.dict
      rcases hh with ⟨ks, h, r⟩ | ⟨ks, h, r⟩
      · refine call_dictD pins s σ H _ _ Q I (.cons rx .nil) ⟨a, ks, rfl, h, fun p hp => ?_⟩
        exact q _ _ (same_new hp) (.dK (fun m => dom p m hp) (.inl upd_same) (RepK.keeps (Same.keepsM (same_new hp)) r)) fun _ b eb => by cases eb; exact ⟨hp, nof_upd (by simp)⟩
      · have hne : kvs ≠ [] := fun z => by rw [z] at hcnd; simp at hcnd
        rcases hcnd.1 with hk | hk
        · cases r with
          | nil => exact absurd rfl hne
          | cons hv t => simp [isTupKey, tkeyD] at hk
        · obtain rfl : u = Value.ref a := rx
          unfold hashOk at hk
          split at hk
          · rename_i nss hn
            have nd := of_decide_eq_true hk
            refine call_dictDT hu I h ?_ fun p hp => ?_
            · rw [rowsOf_T r hn, List.map_map]
              have : (tupleKeyHash (mixKind X.prog X.w) ∘ fun ns : List Int => ns.map Sum.inl) = thash := funext fun ns => hash_rows ns
              rw [this]
              exact nd
            · exact q _ _ (same_new hp) (.dT hne (fun m => dom p m hp) (.inl upd_same) (RepT.keeps (Same.keepsM (same_new hp)) r)) fun _ b eb => by cases eb; exact ⟨hp, nof_upd (by simp)⟩
          · cases hk
    · cases e'
  | list ps =>
    have e' : ((asPairs ps).bind fun kvs => (dputs [] kvs).map PyData.dict) = some d := e
    obtain ⟨kvs, e1, e2⟩ := Option.bind_eq_some_iff.mp e'
    obtain ⟨es, e3, rfl⟩ := Option.map_eq_some_iff.mp e2
    obtain ⟨a, vs, rfl, ha, ra⟩ := hx.list
    obtain ⟨as, rfl, pr⟩ := asPairs_rep ra e1
    have fits := dputs_fits e3
    rcases dputs_kindsN e3 with kk | ⟨hne, kk⟩
    · obtain ⟨ks, p1, p2⟩ := pairsK pr fun p hp => ⟨fits p hp, kk p hp⟩
      refine call_dictP hc pins s σ H _ _ Q I (.cons rx .nil) ⟨a, as, ks, rfl, SqL.of ha, ?_, fun p hp => ?_⟩
      · have : ∀ {as : List Addr} {ks : List (Key × V)}, Paired (fun a (q : Key × V) => H a = some (.tup [kV q.1, q.2])) as ks → Paired (fun p (kv : Key × V) => SqT X.K H p [kV kv.1, kv.2]) as ks := by
          intro as ks h
          induction h with
          | nil => exact .nil
          | cons h t ih => exact .cons (SqT.of h) ih
        exact this p1
      · have rr : RepK Mu H (mergeK [] ks) es := RepK.puts (ks := []) (ds := []) .nil p2 e3
        exact q _ _ (same_new hp) (.dK (fun m => dom p m hp) (.inl upd_same) (RepK.keeps (Same.keepsM (same_new hp)) rr)) fun _ b eb => by cases eb; exact ⟨hp, nof_upd (by simp)⟩
    · obtain ⟨ks, p1, p2⟩ := pairsT pr fun p hp => ⟨fits p hp, kk p hp⟩
      obtain rfl : u = Value.ref a := rx
      refine call_dictT hc hu I ha p1 fun p hp => ?_
      have rr : RepT Mu H (ks.foldl (fun acc q => putK acc q.1 q.2.2) []) es := RepT.puts (ks := []) (ds := []) .nil p2 e3
      exact q _ _ (same_new hp) (.dT hne (fun m => dom p m hp) (.inl upd_same) (RepT.keeps (Same.keepsM (same_new hp)) rr)) fun _ b eb => by cases eb; exact ⟨hp, nof_upd (by simp)⟩
  | _ => cases e

theorem vals_get : ∀ {xs : List V} {us : List Value} {i : Nat} {u : Value}, Vals xs us → us[i]? = some u → ∃ x, xs[i]? = some x ∧ RelV x u
  | [], us, i, u, h, e => by
    obtain rfl := Vals.zero h
    simp at e
  | x :: xs, us, i, u, h, e => by
    obtain ⟨w, ws, rfl, h1, h2⟩ := Vals.cons_inv h
    cases i with
    | zero => exact ⟨x, rfl, by rw [← Option.some.inj (show some w = some u from e)]; exact h1⟩
    | succ i =>
      obtain ⟨y, h3, h4⟩ := vals_get (i := i) h2 e
      exact ⟨y, h3, h4⟩
theorem depthAll_le60 : ∀ {ds : List D}, (∀ d ∈ ds, d.depth ≤ 60) → PyData.depthAll ds ≤ 60
  | [], _ => by unfold PyData.depthAll; omega
  | d :: ds, h => by
    unfold PyData.depthAll
    have h1 := h d (.head _)
    have h2 := depthAll_le60 fun e he => h e (.tail _ he)
    omega
theorem bf_minRows {pins : List (Addr × Obj)} {s : Shared} {σ : L2.St} {H : Hp} {Mu : Addr → Prop} {a : Addr} {vs : List V} {x : D} {r : List D} {Q : VK} (hc : X.calm = true) (hu : X.A.units + 100 < cLine) (I : Inv X pins σ H s) (ha : H a = some (.lst vs)) (ra : RepAll Mu H vs (x :: r)) (h1 : allAlike (x :: r) = true) (h2 : (x :: r).all (fun d => decide (d.depth ≤ 60) && (match d with | .tuple _ => true | _ => false)) = true) (q : Res Mu H (PySem.W.minD x r) Q) :
    wpAny (model X.prog X.w) X.A (call (.builtin "min") [.ref a]) (EP X pins σ Q) X.xe s := by
  obtain ⟨its, rv, ⟨o, n, ho, hcl, _, hd⟩, _⟩ := I.list (SqL.of ha)
  obtain ⟨as, hr, _⟩ := reads_all I _ _ _ ra rv
  have al : PySem.W.AlikeAll (x :: r) := by
    refine ⟨fun y hy z hz => ?_, fun y hy e => ?_⟩
    · have := List.all_eq_true.mp (List.all_eq_true.mp h1 y hy) z hz
      exact this
    · have := List.all_eq_true.mp h2 y hy
      rw [e] at this
      simp at this
  have dp : PyData.depthAll (x :: r) ≤ 60 := depthAll_le60 fun d hd => by
    have := List.all_eq_true.mp h2 d hd
    rw [Bool.and_eq_true, decide_eq_true_eq] at this
    exact this.1
  refine PySem.W.min_list_data (vs := its.toArray) (I.ok.hd hc) ⟨o, ho, hcl, n, hd⟩ hr al (by omega) fun i v h' tk bs hv rd hk => ?_
  have hv' : its[i]? = some v := by simpa using hv
  obtain ⟨bs', r1, hi, hmem, _⟩ := PySem.W.readsAll_at hr i v hv'
  obtain ⟨e, _⟩ := PyProof.Rows.reads_det (h := s.heap) (h' := h') (fun b o e _ => hk b o e) r1 rd
  obtain ⟨y, hy, ry⟩ := vals_get rv hv'
  have eg : (x :: r).getD i .none = (x :: r)[i] := by rw [List.getD_eq_getElem?_getD, List.getElem?_eq_getElem hi]; rfl
  obtain ⟨y', hy', rep⟩ := ra.get (i := i) (List.getElem?_eq_getElem hi)
  rw [hy] at hy'
  obtain rfl := Option.some.inj hy'
  rw [← eg, ← e] at rep
  refine ⟨y, H, I.kept hk, ry, q y H (Same.refl H) rep fun z => ?_⟩
  have := List.all_eq_true.mp h2 _ hmem
  rw [← e] at this
  revert this z
  cases PySem.W.minD x r <;> simp [isSeqOrDict]

theorem bf_repr {pins : List (Addr × Obj)} {s : Shared} {σ : L2.St} {H : Hp} {Mu : Addr → Prop} {x : V} {u : Value} {d0 d : D} {Q : VK} (hg : X.A.guards = some []) (hu : X.A.units + 100 < cLine) (I : Inv X pins σ H s) (rx : RelV x u) (hx : Rep Mu H x d0) (e : bf .repr [d0] = some d) (q : Res Mu H d Q) :
    wpAny (model X.prog X.w) X.A (call (.builtin "repr") [u]) (EP X pins σ Q) X.xe s := by
  have e' : (if (d0.showable && decide (d0.depth ≤ 60) && decide (d0.shown.length ≤ lim) && !(d0.hasDict && hasL d0)) = true then some (PyData.str d0.shown) else none) = some d := e
  split at e'
  · rename_i hcnd
    obtain rfl := Option.some.inj e'
    simp only [Bool.and_eq_true, decide_eq_true_eq] at hcnd
    obtain ⟨⟨⟨h1, h2⟩, h3⟩, h4⟩ := hcnd
    rw [lim_eq] at h3
    have q' : Q (.str d0.shown) H := q.flat (.str _) rfl
    have big : ∀ a, u = .ref a → wpAny (model X.prog X.w) X.A (call (.builtin "repr") [u]) (EP X pins σ Q) X.xe s := fun a ea => by
      obtain ⟨as, r, ns⟩ := reads_any I d0 x u hx rx
      subst ea
      refine repr_of_reads' r h1 (fun hd => ns ?_) hg (by omega) (fun b o e => e) (fun h' v tk hk => ⟨.str d0.shown, H, I.kept hk, ⟨v, rfl⟩, q'⟩) h3
      cases hl : hasL d0 with
      | false => rfl
      | true => rw [hd, hl] at h4; cases h4
    cases d0 with
    | int i =>
      cases hx
      obtain ⟨t, rfl⟩ := rx
      have h1' : i.natAbs.log2 < 1920 := by simpa [PyData.showable] using h1
      exact PySem.P.repr_of_int h1' ⟨.str _, H, I.tok _, ⟨_, rfl⟩, q'⟩
    | bool i =>
      cases hx
      cases rx
      refine PySem.P.repr_of_bool ⟨.str _, H, I.tok _, ⟨_, rfl⟩, ?_⟩
      cases i <;> exact q'
    | none =>
      cases hx
      cases rx
      exact PySem.P.repr_of_none ⟨.str _, H, I.tok _, ⟨_, rfl⟩, q'⟩
    | str i =>
      cases hx
      obtain ⟨t, rfl⟩ := rx
      exact PySem.P.repr_of_str ⟨.str _, H, I.tok _, ⟨_, rfl⟩, q'⟩ h3
    | tuple ds =>
      cases hx
      exact big _ rx
    | list ds =>
      cases hx
      exact big _ rx
    | dict ds =>
      cases hx
      · exact big _ rx
      · exact big _ rx
  · cases e'

def rBf1 (sw : Sw) (f : Bf) : List V → Hp → VK → Prop := fun vs H Q => ∃ Mu ds d, (∀ a, Mu a → H a ≠ none) ∧ RepBs sw Mu H vs ds ∧ (f = .repr → ∀ x ∈ vs, ∀ d ∈ ds, Rep Mu H x d) ∧ bf f ds = some d ∧ Res Mu H d Q

theorem call_bf (hc : X.calm = true) (hg : X.A.guards = some []) (hu : X.A.units + 100 < cLine) (f : Bf) : CallR X (pyF f) (rBf1 sw f) := by
  intro pins s σ H vs us Q I r h
  obtain ⟨Mu, ds, d, dom, hx, hrep, e, q⟩ := h
  have fl : ∀ {k : Int}, d = .int k → Q (.int k) H := fun {k} ek => by
    subst ek
    exact q.flat (.int k) rfl
  have flb : ∀ {k : Bool}, d = .bool k → Q (.bl k) H := fun {k} ek => by
    subst ek
    exact q.flat (.bl k) rfl
  have one : ∀ {f : Bf}, (∀ ds, bf f ds = some d → ∃ d0, ds = [d0]) → bf f ds = some d → ∃ d0 x u, ds = [d0] ∧ vs = [x] ∧ us = [u] ∧ RelV x u ∧ RepB true sw Mu H x d0 := fun {f} hf e => by
    obtain ⟨d0, rfl⟩ := hf ds e
    obtain ⟨x, rfl, hx1⟩ := paired_one hx
    obtain ⟨u, rfl, rx⟩ := vals1 r
    exact ⟨d0, x, u, rfl, rfl, rfl, rx, hx1⟩
  have two : ∀ {f : Bf}, (∀ ds, bf f ds = some d → ∃ i j, ds = [.int i, .int j]) → bf f ds = some d → ∃ i j, ds = [.int i, .int j] ∧ vs = [.int i, .int j] := fun {f} hf e => by
    obtain ⟨i, j, rfl⟩ := hf ds e
    obtain ⟨x, y, rfl, h1, h2⟩ := paired_two hx
    obtain rfl := h1.int
    obtain rfl := h2.int
    exact ⟨i, j, rfl, rfl⟩
  cases f with
  | len =>
    obtain ⟨d0, x, u, rfl, rfl, rfl, rx, hx⟩ := one (f := .len) (fun ds e => by unfold bf at e; split at e <;> first | exact ⟨_, rfl⟩ | (rename_i e2; cases e2) | cases e) e
    exact bf_len I rx hx e q
  | sorted =>
    obtain ⟨d0, x, u, rfl, rfl, rfl, rx, hx⟩ := one (f := .sorted) (fun ds e => by unfold bf at e; split at e <;> first | exact ⟨_, rfl⟩ | (rename_i e2; cases e2) | cases e) e
    have e' : ((walkD d0).bind fun xs => (sortD xs).map PyData.list) = some d := e
    obtain ⟨xs, e1, e2⟩ := Option.bind_eq_some_iff.mp e'
    obtain ⟨es, e3, rfl⟩ := Option.map_eq_some_iff.mp e2
    exact cr_sortD hc hu pins s σ H _ _ Q I (.cons rx .nil) ⟨Mu, x, d0, xs, es, dom, rfl, hx, e1, e3, q⟩
  | tuple =>
    obtain ⟨d0, x, u, rfl, rfl, rfl, rx, hx⟩ := one (f := .tuple) (fun ds e => by unfold bf at e; split at e <;> first | exact ⟨_, rfl⟩ | (rename_i e2; cases e2) | cases e) e
    cases d0 with
    | list xs =>
      obtain ⟨a, vs, rfl, ha, ra⟩ := hx.list
      obtain rfl := Option.some.inj e
      exact call_tuple_of pins s σ H _ _ Q I (.cons rx .nil) ⟨a, vs, rfl, .inl ⟨SqL.of ha, fun l hl => q.newT ra l hl⟩⟩
    | tuple xs =>
      obtain ⟨a, vs, rfl, ha, ra⟩ := hx.tuple
      obtain rfl := Option.some.inj e
      exact call_tuple_of pins s σ H _ _ Q I (.cons rx .nil) ⟨a, vs, rfl, .inr ⟨SqT.of ha, q.flat (.tup ha ra) rfl⟩⟩
    | _ => cases e
  | list =>
    obtain ⟨d0, x, u, rfl, rfl, rfl, rx, hx⟩ := one (f := .list) (fun ds e => by unfold bf at e; split at e <;> first | exact ⟨_, rfl⟩ | (rename_i e2; cases e2) | cases e) e
    exact bf_list hc I dom rx hx e q
  | dict =>
    obtain ⟨d0, x, u, rfl, rfl, rfl, rx, hx⟩ := one (f := .dict) (fun ds e => by unfold bf at e; split at e <;> first | exact ⟨_, rfl⟩ | (rename_i e2; cases e2) | cases e) e
    exact bf_dict hc hu I dom rx hx e q
  | repr =>
    obtain ⟨d0, x, u, rfl, rfl, rfl, rx, hx⟩ := one (f := .repr) (fun ds e => by unfold bf at e; split at e <;> first | exact ⟨_, rfl⟩ | (rename_i e2; cases e2) | cases e) e
    exact bf_repr hg hu I rx (hrep rfl _ (.head _) _ (.head _)) e q
  | sum =>
    obtain ⟨d0, x, u, rfl, rfl, rfl, rx, hx⟩ := one (f := .sum) (fun ds e => by unfold bf at e; split at e <;> first | exact ⟨_, rfl⟩ | (rename_i e2; cases e2) | cases e) e
    cases d0 with
    | list xs =>
      have e' : ((asInts xs).map fun ns => PyData.int ns.sum) = some d := e
      obtain ⟨ns, e1, e2⟩ := Option.map_eq_some_iff.mp e'
      obtain ⟨a, vs, rfl, ha, ra⟩ := hx.list
      obtain ⟨rfl, _⟩ := ra.ints e1
      exact cr_sum hc pins s σ H _ _ Q I (.cons rx .nil) ⟨a, ns, rfl, SqL.of ha, fl e2.symm⟩
    | _ => cases e
  | min1 =>
    obtain ⟨d0, x, u, rfl, rfl, rfl, rx, hx⟩ := one (f := .min1) (fun ds e => by unfold bf at e; split at e <;> first | exact ⟨_, rfl⟩ | (rename_i e2; cases e2) | cases e) e
    cases d0 with
    | list xs =>
      have e' : (match asInts xs with | some ns => (minI ns).map PyData.int | none => minRows xs) = some d := e
      obtain ⟨a, vs, rfl, ha, ra⟩ := hx.list
      cases e3 : asInts xs with
      | some ns =>
        rw [e3] at e'
        obtain ⟨m, e4, e2⟩ := Option.map_eq_some_iff.mp (show (minI ns).map PyData.int = some d from e')
        obtain ⟨rfl, _⟩ := ra.ints e3
        refine cr_min hc pins s σ H _ _ Q I (.cons rx .nil) ⟨a, ns, rfl, SqL.of ha, ?_, fun k hk hle => ?_⟩
        · cases ns with
          | nil => cases e4
          | cons _ _ => simp
        · rw [minI_spec e4 k hk hle]
          exact fl e2.symm
      | none =>
        rw [e3] at e'
        cases xs with
        | nil => cases e3
        | cons y r =>
          have e2 : (if (allAlike (y :: r) && (y :: r).all (fun d => decide (d.depth ≤ 60) && (match d with | .tuple _ => true | _ => false))) = true then some (PySem.W.minD y r) else none) = some d := e'
          split at e2
          · rename_i hcnd
            obtain rfl := Option.some.inj e2
            rw [Bool.and_eq_true] at hcnd
            obtain rfl : u = Value.ref a := rx
            exact bf_minRows hc hu I ha ra hcnd.1 hcnd.2 q
          · cases e2
    | _ => cases e
  | max1 =>
    obtain ⟨d0, x, u, rfl, rfl, rfl, rx, hx⟩ := one (f := .max1) (fun ds e => by unfold bf at e; split at e <;> first | exact ⟨_, rfl⟩ | (rename_i e2; cases e2) | cases e) e
    cases d0 with
    | list xs =>
      have e' : ((asInts xs).bind maxI).map PyData.int = some d := e
      obtain ⟨m, e1, e2⟩ := Option.map_eq_some_iff.mp e'
      obtain ⟨ns, e3, e4⟩ := Option.bind_eq_some_iff.mp e1
      obtain ⟨a, vs, rfl, ha, ra⟩ := hx.list
      obtain ⟨rfl, _⟩ := ra.ints e3
      refine cr_max hc pins s σ H _ _ Q I (.cons rx .nil) ⟨a, ns, rfl, SqL.of ha, ?_, fun k hk hle => ?_⟩
      · cases ns with
        | nil => cases e4
        | cons _ _ => simp
      · rw [maxI_spec e4 k hk hle]
        exact fl e2.symm
    | _ => cases e
  | min2 =>
    obtain ⟨i, j, rfl, rfl⟩ := two (f := .min2) (fun ds e => by unfold bf at e; split at e <;> first | exact ⟨_, _, rfl⟩ | (rename_i e2; cases e2) | cases e) e
    exact call_min2 hc pins s σ H _ _ Q I r ⟨i, j, rfl, fl (Option.some.inj e).symm⟩
  | max2 =>
    obtain ⟨i, j, rfl, rfl⟩ := two (f := .max2) (fun ds e => by unfold bf at e; split at e <;> first | exact ⟨_, _, rfl⟩ | (rename_i e2; cases e2) | cases e) e
    exact call_max2 hc pins s σ H _ _ Q I r ⟨i, j, rfl, fl (Option.some.inj e).symm⟩
  | abs =>
    obtain ⟨d0, x, u, rfl, rfl, rfl, rx, hx⟩ := one (f := .abs) (fun ds e => by unfold bf at e; split at e <;> first | exact ⟨_, rfl⟩ | (rename_i e2; cases e2) | cases e) e
    cases d0 with
    | int i =>
      obtain rfl := hx.int
      exact call_abs pins s σ H _ _ Q I (.cons rx .nil) ⟨i, rfl, fl (Option.some.inj e).symm⟩
    | _ => cases e
  | int =>
    obtain ⟨d0, x, u, rfl, rfl, rfl, rx, hx⟩ := one (f := .int) (fun ds e => by unfold bf at e; split at e <;> first | exact ⟨_, rfl⟩ | (rename_i e2; cases e2) | cases e) e
    cases d0 with
    | int i =>
      obtain rfl := hx.int
      exact call_int1 pins s σ H _ _ Q I (.cons rx .nil) (.inl ⟨i, rfl, fl (Option.some.inj e).symm⟩)
    | bool i =>
      obtain rfl := hx.bool
      exact call_int1 pins s σ H _ _ Q I (.cons rx .nil) (.inr ⟨i, rfl, fl (Option.some.inj e).symm⟩)
    | _ => cases e
  | all =>
    obtain ⟨d0, x, u, rfl, rfl, rfl, rx, hx⟩ := one (f := .all) (fun ds e => by unfold bf at e; split at e <;> first | exact ⟨_, rfl⟩ | (rename_i e2; cases e2) | cases e) e
    cases d0 with
    | list xs =>
      have e' : ((asBools xs).map fun bs => PyData.bool (bs.all id)) = some d := e
      obtain ⟨bs, e1, e2⟩ := Option.map_eq_some_iff.mp e'
      obtain ⟨a, vs, rfl, ha, ra⟩ := hx.list
      obtain rfl := ra.bools e1
      exact cr_all hc pins s σ H _ _ Q I (.cons rx .nil) ⟨a, bs, rfl, SqL.of ha, flb e2.symm⟩
    | _ => cases e
end
end Mp

set_option maxHeartbeats 4000000
/-! L3a: which text a term tells. -/
namespace Mp
open PySem L2 PyProof.Rows PySem.W

abbrev sN (x : String) : Str := Str.ofString x
/-- a name that is a slot -/
def visB (sc : Scope) (x : Str) : Bool := match sc.names.lookup x with | some .local => true | some .cell => true | some .free => true | _ => false
def locB (sc : Scope) (x : Str) : Bool := match sc.names.lookup x with | some .local => true | some .cell => true | _ => false
def lclB (sc : Scope) (x : Str) : Bool := match sc.names.lookup x with | some .local => true | _ => false
def glB (sc : Scope) (x : Str) : Bool := match sc.names.lookup x with | some .globalImplicit => true | _ => false
def nmF : Bf → String
  | .len => "len"
  | .sorted => "sorted"
  | .tuple => "tuple"
  | .list => "list"
  | .dict => "dict"
  | .sum => "sum"
  | .min1 => "min"
  | .max1 => "max"
  | .min2 => "min"
  | .max2 => "max"
  | .abs => "abs"
  | .int => "int"
  | .all => "all"
  | .repr => "repr"
def nmT : Ty → String
  | .int => "int"
  | .bool => "bool"
  | .tuple => "tuple"
  | .list => "list"
  | .str => "str"
  | .dict => "dict"
def nmM : Me → String
  | .get => "get"
  | .index => "index"
  | .count => "count"
/-- the names of the library that the terms know -/
def kitNames : List String := ["len", "sorted", "tuple", "list", "dict", "sum", "min", "max", "abs", "int", "all", "repr", "isinstance", "bool", "str", "range", "enumerate", "zip", "set"]

def starredB : Expr → Bool
  | .Starred _ _ => true
  | _ => false
def slicedB : Expr → Bool
  | .Slice _ _ _ _ => true
  | _ => false
def setB : Expr → Bool
  | .Set _ _ _ => true
  | _ => false
def nameIs (sc : Scope) (f : String) : Expr → Bool
  | .Name x _ => x == sN f && glB sc (sN f)
  | _ => false
/-- a slot's name -/
def slotIs (N : List Str) (sc : Scope) (i : Nat) : Expr → Bool
  | .Name x _ => decide (N[i]? = some x) && visB sc x && !(x == sN "__debug__") && !(x == sN "__classdict__")
  | _ => false
def callNoBase : Expr → Bool
  | .Call _ _ _ _ => false
  | _ => true
def isTupE : Expr → Bool
  | .Tuple _ _ _ => true
  | _ => false

mutual
def namesT : T → List Nat
  | .name i => [i]
  | .tup ts => namesTs ts
def namesTs : List T → List Nat
  | [] => []
  | t :: ts => namesT t ++ namesTs ts
end
mutual
def chkT (N : List Str) (sc : Scope) (fn : Str → Bool) : T → Expr → Bool
  | .name i, a => match a with
    | .Name x _ => decide (N[i]? = some x) && locB sc x && (fn x || lclB sc x)
    | _ => false
  | .tup ts, a => match a with
    | .Tuple es _ _ => chkTs N sc fn ts es
    | _ => false
def chkTs (N : List Str) (sc : Scope) (fn : Str → Bool) : List T → List Expr → Bool
  | [], [] => true
  | t :: ts, e :: es => chkT N sc fn t e && !starredB e && chkTs N sc fn ts es
  | _, _ => false
end
/-- a block's own cells -/
def cellIn (scope : Scope) : Str → Bool := fun x => scope.names.lookup x == some .cell

mutual
def chk (N : List Str) (fs : List String) (sc : Scope) : E → Expr → Bool
  | .var i, a => slotIs N sc i a
  | .int i, a => match a with
    | .Constant (.int j) _ _ => i == j
    | _ => false
  | .bool i, a => match a with
    | .Constant (.bool j) _ _ => i == j
    | _ => false
  | .none, a => match a with
    | .Constant .none _ _ => true
    | _ => false
  | .str i, a => match a with
    | .Constant (.str j) _ _ => i == j
    | _ => false
  | .tup es, a => match a with
    | .Tuple as _ _ => chks N fs sc es as
    | _ => false
  | .lst es, a => match a with
    | .List as _ => chks N fs sc es as
    | _ => false
  | .dict0, a => match a with
    | .Dict [] [] _ => true
    | _ => false
  | .dict1 k v, a => match a with
    | .Dict [some ke] [ve] _ => chk N fs sc k ke && chk N fs sc v ve
    | _ => false
  | .bin o x y, a => match a with
    | .BinOp l p r _ => decide (p = pyB o) && chk N fs sc x l && chk N fs sc y r
    | _ => false
  | .neg x, a => match a with
    | .UnaryOp .USub l _ => chk N fs sc x l
    | _ => false
  | .not_ x, a => match a with
    | .UnaryOp .Not l _ => chk N fs sc x l
    | _ => false
  | .and_ x y, a => match a with
    | .BoolOp .And [l, r] _ => chk N fs sc x l && chk N fs sc y r
    | .BoolOp .And (l :: r :: q :: rest) p => chk N fs sc x l && chk N fs sc y (.BoolOp .And (r :: q :: rest) p)
    | _ => false
  | .or_ x y, a => match a with
    | .BoolOp .Or [l, r] _ => chk N fs sc x l && chk N fs sc y r
    | .BoolOp .Or (l :: r :: q :: rest) p => chk N fs sc x l && chk N fs sc y (.BoolOp .Or (r :: q :: rest) p)
    | _ => false
  | .cmp o x y, a => match a with
    | .Compare l [p] [r] _ => decide (p = pyC o) && chk N fs sc x l && chk N fs sc y r && !setB r
    | _ => false
  | .chain o o' x y z, a => match a with
    | .Compare l [p, p'] [r, q] _ => decide (p = pyC o) && decide (p' = pyC o') && chk N fs sc x l && chk N fs sc y r && chk N fs sc z q && !setB q
    | _ => false
  | .isNone x, a => match a with
    | .Compare l [.Is] [.Constant .none _ _] _ => chk N fs sc x l
    | _ => false
  | .notNone x, a => match a with
    | .Compare l [.IsNot] [.Constant .none _ _] _ => chk N fs sc x l
    | _ => false
  | .isB x c, a => match a with
    | .Compare l [.Is] [.Constant (.bool d) _ _] _ => chk N fs sc x l && c == d
    | _ => false
  | .notB x c, a => match a with
    | .Compare l [.IsNot] [.Constant (.bool d) _ _] _ => chk N fs sc x l && c == d
    | _ => false
  | .ite c x y, a => match a with
    | .IfExp p l r _ => chk N fs sc c p && chk N fs sc x l && chk N fs sc y r
    | _ => false
  | .idx x i, a => match a with
    | .Subscript l r _ => chk N fs sc x l && chk N fs sc i r && !slicedB r
    | _ => false
  | .slice x lo hi, a => match a with
    | .Subscript l (.Slice p q .none _) _ => chk N fs sc x l && chkO N fs sc lo p && chkO N fs sc hi q
    | _ => false
  | .rev x, a => match a with
    | .Subscript l (.Slice .none .none (.some (.UnaryOp .USub (.Constant (.int 1) _ _) _)) _) _ => chk N fs sc x l
    | _ => false
  | .rg1 tp x, a => match a with
    | .Call f [.Call g [l] [] _] [] _ => nameIs sc (if tp then "tuple" else "list") f && nameIs sc "range" g && chk N fs sc x l && !starredB l
    | _ => false
  | .rg2 tp x y, a => match a with
    | .Call f [.Call g [l, r] [] _] [] _ => nameIs sc (if tp then "tuple" else "list") f && nameIs sc "range" g && chk N fs sc x l && chk N fs sc y r && !starredB l && !starredB r
    | _ => false
  | .isinst t x, a => match a with
    | .Call f [l, r] [] _ => nameIs sc "isinstance" f && nameIs sc (nmT t) r && chk N fs sc x l && !starredB l
    | _ => false
  | .bf f es, a => match a with
    | .Call g (l :: as) [] _ => nameIs sc (nmF f) g && chks N fs sc es (l :: as) && !(l :: as).any starredB
    | _ => false
  | .me m o es, a => match m, es, a with
    | .get, .cons k (.cons z .nil), .Call (.Attribute l x p) [e, f] [] q => x == sN "get" && chk N fs sc o l && chk N fs sc k e && chk N fs sc z f && !starredB e && !starredB f && callNoBase l && (p.endLine == q.line)
    | _, _, _ => false
  | .call f src es, a => match a with
    | .Call g (l :: as) [] _ => nameIs sc f g && fs.contains f && !(sN f == sN "__debug__") && !(l :: as).any starredB && (match src with
      | .none => chks N fs sc es (l :: as)
      | .some k => slotIs N sc k l && chks N fs sc es as)
    | _ => false
  | .comp elt t it c own, a => match a with
    | .ListComp p [⟨tg, iter, ifs, 0⟩] scope _ => chkI N fs sc it tg iter && !setB iter && blkC N sc scope (own.filterMap fun i => (N[i]?).map fun x => (x, i)) && decide ((own.filterMap fun i => (N[i]?).map fun x => (x, i)).map (·.2) = own) &&
        chkT N (relS scope sc) (cellIn scope) t tg && (namesT t).all (fun i => own.contains i) && chk N fs (relS scope sc) elt p && (match ifs with
          | [] => (match c with | .bool true => true | _ => false)
          | [q] => chk N fs (relS scope sc) c q
          | _ => false)
    | _ => false
  | .me1 m o x, a => match a with
    | .Call (.Attribute l f p) [e] [] q => f == sN (nmM m) && chk N fs sc o l && chk N fs sc x e && !starredB e && callNoBase l && (p.endLine == q.line)
    | _ => false
  | .nset x, a => match a with
    | .Call f [.Call g [l] [] _] [] _ => nameIs sc "len" f && nameIs sc "set" g && chk N fs sc x l && !starredB l
    | _ => false
  | .minv x, a => match a with
    | .Call f [.Call (.Attribute l y p) [] [] q] [] _ => nameIs sc "min" f && y == sN "values" && chk N fs sc x l && callNoBase l && (p.endLine == q.line)
    | _ => false
def chkO (N : List Str) (fs : List String) (sc : Scope) : Option E → Option Expr → Bool
  | .none, .none => true
  | .some e, .some a => chk N fs sc e a
  | _, _ => false
def chks (N : List Str) (fs : List String) (sc : Scope) : Es → List Expr → Bool
  | .nil, [] => true
  | .cons e r, a :: as => chk N fs sc e a && !starredB a && chks N fs sc r as
  | .star e r, .Starred a _ :: as => chk N fs sc e a && chks N fs sc r as
  | _, _ => false
def chkI (N : List Str) (fs : List String) (sc : Scope) : I → Expr → Expr → Bool
  | .over e, _, a => chk N fs sc e a
  | .range1 x, _, a => match a with
    | .Call f [l] [] _ => nameIs sc "range" f && chk N fs sc x l && !starredB l
    | _ => false
  | .range2 x y, _, a => match a with
    | .Call f [l, r] [] _ => nameIs sc "range" f && chk N fs sc x l && chk N fs sc y r && !starredB l && !starredB r
    | _ => false
  | .range3 _ _ _, _, _ => false
  | .enum x, tg, a => match a with
    | .Call f [l] [] _ => nameIs sc "enumerate" f && chk N fs sc x l && !starredB l && isTupE tg
    | _ => false
  | .zip2 _ x y, tg, a => match a with
    | .Call f [l, r] [] _ => nameIs sc "zip" f && chk N fs sc x l && chk N fs sc y r && !starredB l && !starredB r && isTupE tg
    | _ => false
  | .zip3 _ _ _ _, _, _ => false
  | .items i, tg, a => match a with
    | .Call (.Attribute l x p) [] [] q => x == sN "items" && slotIs N sc i l && (p.endLine == q.line) && isTupE tg
    | _ => false
  | .values i, _, a => match a with
    | .Call (.Attribute l x p) [] [] q => x == sN "values" && slotIs N sc i l && (p.endLine == q.line)
    | _ => false
end

/-! ### what it says -/
theorem vis_of {sc : Scope} {x : Str} (h : visB sc x = true) : Vis sc x := by
  unfold visB at h
  split at h
  · exact .inl (by assumption)
  · exact .inr (.inl (by assumption))
  · exact .inr (.inr (by assumption))
  · cases h
theorem loc_of {sc : Scope} {x : Str} (h : locB sc x = true) : Loc sc x := by
  unfold locB at h
  split at h
  · exact .inl (by assumption)
  · exact .inr (by assumption)
  · cases h
theorem gl_of {sc : Scope} {x : Str} (h : glB sc x = true) : sc.names.lookup x = some .globalImplicit := by
  unfold glB at h
  split at h
  · assumption
  · cases h
theorem nameIs_of {sc : Scope} {f : String} {a : Expr} (h : nameIs sc f a = true) : ∃ p, a = .Name (sN f) p ∧ sc.names.lookup (sN f) = some .globalImplicit := by
  unfold nameIs at h
  split at h
  · rw [Bool.and_eq_true, beq_iff_eq] at h
    obtain ⟨rfl, h2⟩ := h
    exact ⟨_, rfl, gl_of h2⟩
  · cases h
theorem slotIs_of {N : List Str} {sc : Scope} {i : Nat} {a : Expr} (h : slotIs N sc i a = true) : ∃ x p, a = .Name x p ∧ N[i]? = some x ∧ Vis sc x ∧ (x == sN "__debug__") = false ∧ (x == sN "__classdict__") = false := by
  unfold slotIs at h
  split at h
  · simp only [Bool.and_eq_true, decide_eq_true_eq, Bool.not_eq_true'] at h
    obtain ⟨⟨⟨h1, h2⟩, h3⟩, h4⟩ := h
    exact ⟨_, _, rfl, h1, vis_of h2, h3, h4⟩
  · cases h

theorem star_head {e : Expr} {es : List Expr} {env : Env} (h : starredB e = false) : starEach (e :: es) env = (false, eval e env) :: starEach es env := by
  cases e <;> first | rfl | cases h
theorem star_any {es : List Expr} {env : Env} {pos : Pos} (h : es.any starredB = false) : (backTo pos (starEach es env)).any (·.1) = false := by
  induction es with
  | nil => rfl
  | cons e es ih =>
    rw [List.any_cons, Bool.or_eq_false_iff] at h
    rw [star_head h.1]
    have z := ih h.2
    unfold backTo at z ⊢
    rw [List.map_cons, List.any_cons, z]
    rfl
theorem plainIx_of {e : Expr} (h : slicedB e = false) : PlainIx e := by
  intro o i
  cases e <;> first | rfl | cases h
theorem marks_of {e : Expr} {op : CmpOp} (h : setB e = false) : behindInMarks op e = false := by
  cases e <;> first | rfl | cases h
theorem folded_of {e : Expr} {env : Env} (h : setB e = false) : ∀ x, foldedSetIterable e env x = pure x := by
  intro x
  cases e <;> first | rfl | cases h
theorem base_of {e : Expr} {x : Str} {env : Env} {whole : Sem Value} (h : callNoBase e = true) : attributeBase e x env whole = whole := by
  cases e <;> first | rfl | cases h
end Mp

set_option maxHeartbeats 4000000
/-! L3b: subscripts, slices, methods, isinstance, by trees; calls where the guards are known. -/
namespace Mp
open PySem L2 PyProof.Rows PySem.W

section
variable {Mu : Addr → Prop} {H : Hp} {sw : Sw} {b : Bool}
theorem ixNat_ixN (n : Nat) (i : Int) (j : Nat) (h : ixNat n i = some j) : j < n ∧ HT.sIx n 0 (some i) = j ∧ (i = j ∨ i = (j : Int) - n) := by
  unfold ixNat at h
  split at h
  · split at h
    · obtain rfl := Option.some.inj h
      refine ⟨by omega, ?_, .inl (by omega)⟩
      show (if i < 0 then _ else min i.toNat n) = _
      rw [if_neg (by omega)]
      omega
    · cases h
  · split at h
    · obtain rfl := Option.some.inj h
      refine ⟨by omega, ?_, .inr (by omega)⟩
      show (if i < 0 then (i + n).toNat else _) = _
      rw [if_pos (by omega)]
    · cases h
theorem atI_of {α : Type} {xs : List α} {i : Int} {j : Nat} {v : α} (h : ixNat xs.length i = some j) (hv : xs[j]? = some v) : atI xs i = some v := by
  obtain ⟨h1, _, h3⟩ := ixNat_ixN _ _ _ h
  rcases h3 with rfl | rfl
  · exact atI_nat hv
  · have e : ixN xs.length ((j : Int) - xs.length) = some j := by
      unfold ixN
      rw [if_neg (by omega), if_pos (by omega)]
      congr 1
      omega
    unfold atI
    rw [e]
    exact hv
end

def rIxD (sw : Sw) : R2 := fun x y H Q => ∃ Mu dx dy d, RepB true sw Mu H x dx ∧ Rep Mu H y dy ∧ itemAt dx dy = some d ∧ ∀ v, Rep Mu H v d → Q v H

section
variable {X : Cx} {sw : Sw}
theorem ix_any (hu : X.A.units + 100 < cLine) : IxR X (rIxD sw) := by
  intro value slice pins s σ H x y v u Q I rx ry h hs
  obtain ⟨Mu, dx, dy, d, hx, hy, e, q⟩ := h
  cases dx with
  | list xs =>
    cases dy with
    | int i =>
      have e' : ((ixNat xs.length i).bind fun j => xs[j]?) = some d := e
      obtain ⟨j, e1, e2⟩ := Option.bind_eq_some_iff.mp e'
      obtain ⟨a, vs, rfl, ha, ra⟩ := hx.list
      cases hy
      obtain ⟨w, hw, rw'⟩ := ra.get e2
      exact ix_list value slice pins s σ H _ _ v u Q I rx ry ⟨a, vs, i, w, rfl, rfl, SqL.of ha, atI_of (by rw [ra.length]; exact e1) hw, q w rw'⟩ hs
    | _ => cases e
  | tuple xs =>
    cases dy with
    | int i =>
      have e' : ((ixNat xs.length i).bind fun j => xs[j]?) = some d := e
      obtain ⟨j, e1, e2⟩ := Option.bind_eq_some_iff.mp e'
      obtain ⟨a, vs, rfl, ha, ra⟩ := hx.tuple
      cases hy
      obtain ⟨w, hw, rw'⟩ := ra.get e2
      exact ix_tup value slice pins s σ H _ _ v u Q I rx ry ⟨a, vs, i, w, rfl, rfl, SqT.of ha, atI_of (by rw [ra.length]; exact e1) hw, q w rw'⟩ hs
    | _ => cases e
  | dict kvs =>
    have e' : (if keyFits kvs dy = true then dget kvs dy else none) = some d := e
    split at e'
    · rename_i hf
      obtain ⟨a, o, rfl, g, hv⟩ := dg_of hx (RepB.of (b := true) hy) hf
      obtain rfl : v = Value.ref a := rx
      rcases hv with ⟨_, h2, _⟩ | ⟨w, d', rfl, h2, _, h4⟩
      · rw [h2] at e'; cases e'
      · rw [h2] at e'
        obtain rfl := Option.some.inj e'
        have isd : IsD H a := by
          rcases g with ⟨kvs, k, e, _⟩ | ⟨kvs, k, c, e, _⟩
          · obtain ⟨a', ea, hh⟩ := hx.dict
            cases ea
            rcases hh with ⟨ks, h, _⟩ | ⟨ks, h, _⟩
            · exact .inl ⟨_, h⟩
            · exact .inr ⟨_, h⟩
          · obtain ⟨a', ea, hh⟩ := hx.dict
            cases ea
            rcases hh with ⟨ks, h, _⟩ | ⟨ks, h, _⟩
            · exact .inl ⟨_, h⟩
            · exact .inr ⟨_, h⟩
        have hT := (isD_at I isd).1
        unfold subscriptTail
        refine wpAny_bind ?_
        rw [getitemInPython_of_ne hT.not_modules]
        refine wpAny_bind (wpAny_specialOf hT PySem.F.slot_dict_getitem.lookup ?_)
        have fin : wpAny (model X.prog X.w) X.A (subscripted slice false (.ref a) u) (fun r s₃ => wpAny (model X.prog X.w) X.A (letTemporaryGo value (.ref a) r >>= fun _ => pure r) (EP X pins σ Q) X.xe s₃) X.xe s := by
          rw [hs]
          exact wpAny_operating (dg_item (by omega) I g ry fun w' s3 I3 rw' => wpAny_bind (wpAny_letTemporaryGo (wpAny_pure ⟨w, H, I3, rw', q w h4⟩)))
        first
          | exact wpAny_pure (wpAny_bind fin)
          | exact wpAny_bind (wpAny_pure (wpAny_bind fin))
          | exact wpAny_bind fin
    · cases e'
  | _ => cases e

theorem cut_eq {α : Type} (xs : List α) (lo hi : Option Int) : (xs.drop (HT.sIx xs.length 0 lo)).take (HT.sIx xs.length xs.length hi - HT.sIx xs.length 0 lo) = cutD xs lo hi := by
  have e : ∀ n d o, HT.sIx n d o = cutIx n d o := fun n d o => by cases o <;> rfl
  unfold cutD
  rw [e, e]

/-- d.get(k, x) -/
def tGet2 (td ty tx : TE) : TE := fun σ H Q => td σ H fun x H1 => (∃ a, x = .ref a ∧ IsD H1 a) ∧ ty σ H1 fun y H2 => tx σ H2 fun z H3 => ∃ a o, x = .ref a ∧ DG H3 a y o ∧ Q (o.getD z) H3
theorem pe_get2 {o e f : Expr} {apos cpos : Pos} {td ty tx : TE} (hu : X.A.units + 1 < cLine) (ho : PE X o td) (he : PE X e ty) (hf : PE X f tx) (m : M2 X o "get" apos e f cpos) : PE X (.Call (.Attribute o "get" apos) [e, f] [] cpos) (tGet2 td ty tx) := by
  refine ⟨fun pins s σ H Q I h => ?_⟩
  refine wpAny_Call_method m.base m.few m.line PySem.F.plainAttrs_dict PySem.F.slot_dict_get PySem.F.type_dict_get (thn (ho.run pins s σ H _ I h) fun u s1 ⟨x, H1, I1, rx, ⟨a, ex, d⟩, q1⟩ => ?_)
  subst ex
  obtain rfl : u = Value.ref a := rx
  obtain ⟨t1, t2, _⟩ := isD_at I1 d
  refine ⟨t1, t2, ?_⟩
  rw [m.trees]
  refine Calls.callWith_builtin rfl (Calls.evalArgs_plain (Calls.spliced_cons (thn (he.run pins s1 σ H1 _ I1 q1) fun iv s2 ⟨y, H2, I2, ry, q2⟩ =>
    Calls.spliced_cons (thn (hf.run pins s2 σ H2 _ I2 q2) fun fv s3 ⟨z, H3, I3, rz, a', ov, ea, g, q3⟩ => Calls.spliced_nil ?_))))
  cases ea
  exact dg_get2 hu I3 g ry rz fun w' s4 I4 rw' => ⟨_, H3, I4, rw', q3⟩

/-- isinstance -/
theorem kit_rep {pins : List (Addr × Obj)} {s : Shared} {σ : L2.St} {H : Hp} {Mu : Addr → Prop} {x : V} {u : Value} {d : D} (I : Inv X pins σ H s) (rx : RelV x u) (hx : RepB true sw Mu H x d) :
    ∃ (T : String) (P : Heap → Prop), PySem.W.KitX X.K u (.type T) P ∧ P s.heap ∧ u ≠ .builtin "__main__.__loader__#opaque" ∧ ∀ t : Ty, PySem.W.kitOne X.K (.type T) (.type (nmT t)) = some (isTy t d) := by
  have go : ∀ (T : String) (P : Heap → Prop), PySem.W.KitX X.K u (.type T) P → P s.heap → u ≠ .builtin "__main__.__loader__#opaque" → (∀ t : Ty, PySem.W.kitOne X.K (.type T) (.type (nmT t)) = some (isTy t d)) → ∃ (T : String) (P : Heap → Prop), PySem.W.KitX X.K u (.type T) P ∧ P s.heap ∧ u ≠ .builtin "__main__.__loader__#opaque" ∧ ∀ t : Ty, PySem.W.kitOne X.K (.type T) (.type (nmT t)) = some (isTy t d) := fun T P a b c d => ⟨T, P, a, b, c, d⟩
  cases d with
  | none =>
    rcases hx with hx | ⟨_, _, _, _, _, hx⟩ <;> cases hx
    cases (show u = Value.none from rx)
    exact go _ _ PySem.W.kitx_none True.intro (fun z => nomatch z) fun t => by cases t <;> first | exact kit_ty (r := true) (by decide +kernel) | exact kit_ty (r := false) (by decide +kernel)
  | bool i =>
    obtain rfl := hx.bool
    cases (show u = Value.bool i from rx)
    exact go _ _ PySem.W.kitx_bool True.intro (fun z => nomatch z) fun t => by cases t <;> first | exact kit_ty (r := true) (by decide +kernel) | exact kit_ty (r := false) (by decide +kernel)
  | int i =>
    obtain rfl := hx.int
    obtain ⟨t, rfl⟩ := rx
    exact go _ _ PySem.W.kitx_int True.intro (fun z => nomatch z) fun t => by cases t <;> first | exact kit_ty (r := true) (by decide +kernel) | exact kit_ty (r := false) (by decide +kernel)
  | str i =>
    rcases hx with hx | ⟨_, _, _, _, _, hx⟩ <;> cases hx
    obtain ⟨t, rfl⟩ := rx
    exact go _ _ PySem.W.kitx_str True.intro (fun z => nomatch z) fun t => by cases t <;> first | exact kit_ty (r := true) (by decide +kernel) | exact kit_ty (r := false) (by decide +kernel)
  | list xs =>
    obtain ⟨a, vs, rfl, ha, ra⟩ := hx.list
    cases (show u = Value.ref a from rx)
    obtain ⟨its, rv, pl, _⟩ := I.list (SqL.of ha)
    obtain ⟨ob, h1, h2, _⟩ := pl.isList
    exact go _ _ PySem.W.kitx_list ⟨ob, h1, h2⟩ (fun z => nomatch z) fun t => by cases t <;> first | exact kit_ty (r := true) (by decide +kernel) | exact kit_ty (r := false) (by decide +kernel)
  | tuple xs =>
    obtain ⟨a, vs, rfl, ha, ra⟩ := hx.tuple
    cases (show u = Value.ref a from rx)
    obtain ⟨its, rv, ⟨ob, h1, h2, _⟩, _⟩ := I.tuple (SqT.of ha)
    exact go _ _ PySem.W.kitx_tuple ⟨ob, h1, h2⟩ (fun z => nomatch z) fun t => by cases t <;> first | exact kit_ty (r := true) (by decide +kernel) | exact kit_ty (r := false) (by decide +kernel)
  | dict kvs =>
    obtain ⟨a, o, es, ep, rfl, h1, h2, _⟩ := dict_entries I hx
    cases (show u = Value.ref a from rx)
    exact go _ _ PySem.W.kitx_dict ⟨o, h1, h2.1⟩ (fun z => nomatch z) fun t => by cases t <;> first | exact kit_ty (r := true) (by decide +kernel) | exact kit_ty (r := false) (by decide +kernel)

def rIst (sw : Sw) (t : Ty) : List V → Hp → VK → Prop := fun vs H Q => ∃ Mu x d, vs = [x, .ty (nmT t)] ∧ RepB true sw Mu H x d ∧ Q (.bl (isTy t d)) H
theorem call_ist (t : Ty) : CallR X (.builtin "isinstance") (rIst sw t) := by
  intro pins s σ H xs us Q I r h
  obtain ⟨Mu, x, d, rfl, hx, q⟩ := h
  obtain ⟨u1, u2, rfl, r1, r2⟩ := vals2 r
  have e2 := (ClsV.ty (nmT t)).eq r2
  subst e2
  obtain ⟨T, P, Z, p, ne, ty⟩ := kit_rep I r1 hx
  exact PySem.W.kia_one Z I.kIn p (ty t) ne fun tk => ⟨.bl _, H, I.tok tk, rfl, q⟩
end

/-! ### defs of which one knows that no repr is under way -/
structure FnG (P : Program) (w : World) (K : PySem.W.Frag) (mg : Str → Option Value) (base : Heap) (n : Nat) (fa : Addr) (fn : FuncData) (pars : List Str) (pr : Sp) : Prop where
  size : ∀ vs H Q E, pr vs H Q E → vs.length = pars.length
  go : ∀ (A : Around) (outer : List Env) (s : Shared) (H : Hp) (args : Args) (us : List Value) (vs : List V) (Q : VK) (E : XK),
    Room n A → A.guards = some [] → Env0 P w K mg base A outer s H → BindsTo s fn args (pars.zip us) → Vals vs us → pr vs H Q E →
      codeAny (model P w) A (.call (.ref fa) args) (CR CX0 outer P w H s Q E) s

section
variable {X : Cx} {n : Nat} {fa : Addr} {fn : FuncData} {pars : List Str} {pr : Sp} {x : Str}
theorem run_g {pins : List (Addr × Obj)} {σ : L2.St} {H : Hp} {s : Shared} {Q : VK} {us : List Value} {vs : List V} {E : XK} (F : FnG X.prog X.w X.K X.mg X.base n fa fn pars pr) (hr : Room n X.A) (hgd : X.A.guards = some []) (hb : Binds X.K fn pars [])
    (I : Inv X pins σ H s) (r : Vals vs us) (h : pr vs H Q E) : wpAny (model X.prog X.w) X.A (call (.ref fa) us) (EP X pins σ Q) X.xe s := by
  have len : us.length = pars.length := (r.length.symm).trans (F.size _ _ _ _ h)
  have bd := hb s us I.kIn (by rw [List.append_nil]; exact len)
  rw [List.append_nil] at bd
  refine wpAny_call (codeAny_mono (F.go X.A X.stack s H ⟨us, []⟩ us vs Q E hr hgd I.env0 bd r h) fun res s2 hres => ?_)
  match res, hres with
  | .ok (.ret u), hres => exact I.after hres
theorem pe_callG {p pos : Pos} {e : Expr} {es : List Expr} {t : TA} {E : XK} (F : FnG X.prog X.w X.K X.mg X.base n fa fn pars pr) (hr : Room n X.A) (hgd : X.A.guards = some []) (hg : Gl X x) (hm : X.mg x = some (.ref fa)) (hk : PySem.W.keepIn X.K (.ref fa) = true) (hb : Binds X.K fn pars [])
    (ha : PA X (e :: es) t) (hdb : (x == ("__debug__" : Str)) = false) (he : starEach (e :: es) X.env = (false, eval e X.env) :: starEach es X.env) (hpl : (backTo pos (starEach es X.env)).any (·.1) = false) :
    PE X (.Call (.Name x p) (e :: es) [] pos) (fun σ H Q => t σ H fun vs H1 => pr vs H1 Q E) := by
  refine ⟨fun pins s σ H Q I h => wpAny_Call_Name_kw (ld_glob I hg hm ?_ hdb)⟩
  exact PySem.W.callWith_K (h₀ := X.base) I.ok.mod.kin hk (thn (ha.run pos pins s σ H _ I h) fun us s1 z => by
    obtain ⟨vs, H1, I1, r, q⟩ := z
    exact ⟨I1.kIn, run_g F hr hgd hb I1 r q⟩) he hpl
end

/-- a def by its body -/
theorem fnG_of {P : Program} {w : World} {K : PySem.W.Frag} {mg : Str → Option Value} {base : Heap} {n : Nat} {fa : Addr} {name qual : Str} {params : Arguments} {body : List Stmt} {scope : Scope} {dV kV doc pm cdv ct oc : Value} {an od : Option Addr}
    {osl : Array (Option Value)} {N pars : List Str} {pr : Sp} (lk : K.lookup fa = some ⟨oc, od, .func (PySem.W.fnOf name qual params body scope dV kV doc pm an cdv ct), osl⟩) (hcd : PySem.W.codeIn K cdv qual = true) (S : FnScope N pars scope)
    (size : ∀ vs H Q E, pr vs H Q E → vs.length = pars.length)
    (hbody : ∀ (A : Around) (outer : List Env) (s : Shared) (H : Hp) (vs : List V) (Q : VK) (E : XK), Room n (A.deeper (envOfC qual scope s.heap.objs.size fa cdv)) → A.guards = some [] → pr vs H Q E →
      ∃ t, PSs (cxOf CX0 P w K mg base N qual scope fa cdv A outer s H E) body t ∧ t { nx := fun _ H' => Q .non H', rt := Q } (start N vs) H) :
    FnG P w K mg base (n + 1) fa (PySem.W.fnOf name qual params body scope dV kV doc pm an cdv ct) pars pr := by
  refine ⟨size, fun A outer s H args us vs Q E hr hgd e0 hb r hpr => ?_⟩
  have kin : K.In s.heap := e0.mod.kin.keeps fun b o e => (e0.bs b o e).1
  have kinds : ∀ y ∈ pars.zip us, scope.names.lookup y.1 = some .local ∨ (scope.names.lookup y.1 = some .cell ∧ ((cellsFrom (s.heap.objs.size + 1) scope.names []).lookup y.1).isSome = true) := fun y hy =>
    (S.par y.1 (List.of_mem_zip (show (y.1, y.2) ∈ pars.zip us from hy)).1).imp id fun q => ⟨q, PySem.W.cellsFrom_some _ _ _ (.inl q)⟩
  refine codeAny_call_function hr.depth (kin _ _ lk) rfl S.co S.gen rfl (PySem.W.codeRec_of kin hcd) (hb _ _ _ _ ?_)
  refine wpAny_newFunctionEnv_cells S.kind kinds fun env he s1 ic => ?_
  subst he
  refine ⟨(e0.mod.nolimit.keeps fun b o e => (e0.bs b o e).1).keeps ic.toInCall.keep, codeAny_func ?_⟩
  obtain ⟨t, ht, hq⟩ := hbody A outer s H vs Q E (hr.deeper _) hgd hpr
  have I0 : Inv (cxOf CX0 P w K mg base N qual scope fa cdv A outer s H E) [] (start N vs) H s1 := inv_start S hr.hd e0 (size _ _ _ _ hpr) r ic
  refine wpAny_mono (ht.run [] s1 (start N vs) H _ I0 hq) (fun fl s2 hs => ?_) fun _ _ hs => hs
  have done : ∀ {σ2 : L2.St} {H2 : Hp} {v : V} {u : Value}, Inv (cxOf CX0 P w K mg base N qual scope fa cdv A outer s H E) [] σ2 H2 s2 → RelV v u → Q v H2 → CE outer P w H s Q u s2 :=
    fun {σ2 H2 v u} J rv q => ⟨v, H2, J.os, J.bare, J.base, J.hok, rv, q⟩
  match fl, hs with
  | .ret u, ⟨v, σ2, H2, J, rv, q⟩ => exact done J rv q
  | .next, ⟨σ2, H2, J, q⟩ => exact done (v := V.non) (u := Value.none) J rfl q
  | .brk, ⟨_, _, _, q⟩ => exact False.elim q
  | .cont, ⟨_, _, _, q⟩ => exact False.elim q
end Mp

set_option maxHeartbeats 4000000
/-! L3c: what a term's reading asks; the forms, one by one. -/
namespace Mp
open PySem L2 PyProof.Rows PySem.W

/-- what a def of the program promises: its term's value -/
def spF (call : Call) (f : String) (n : Nat) : Sp := fun vs H Q E => vs.length = n ∧ ∃ (sw : Sw) (Mu : Addr → Prop) (b : Bool) (ws : List V) (ds : List D) (src : Src) (d : D) (src' : Src),
  SrcOk sw H src ∧ SwIn sw Mu ∧ (∀ a, Mu a → H a ≠ none) ∧ (match b with | true => ∃ p, sw = some p ∧ vs = .ref p.1 :: ws | false => vs = ws) ∧ RepAll Mu H ws ds ∧ call f b ds src = some (d, src') ∧
    ∀ v H', ExtS sw H H' → SrcOk sw H' src' → Rep Mu H' v d → Q v H'

structure XOk (call : Call) (fs : List String) (N : List Str) (X : Cx) : Prop where
  names : X.N = N
  nd : N.Nodup
  calm : X.calm = true
  guards : X.A.guards = some []
  units : X.A.units + 200 < cLine
  kit : ∀ x ∈ kitNames, X.mg (sN x) = none
  fns : ∀ f ∈ fs, ∃ k fa fd ps, X.mg (sN f) = some (.ref fa) ∧ PySem.W.keepIn X.K (.ref fa) = true ∧ FnG X.prog X.w X.K X.mg X.base k fa fd ps (spF call f ps.length) ∧ Room k X.A ∧ Binds X.K fd ps [] ∧ ∀ b ds s r, call f b ds s = some r → ds.length + b.toNat = ps.length

/-- a new list, a new dict comes of it -/
def freshE : E → Bool
  | .lst _ => true
  | .dict0 => true
  | .dict1 _ _ => true
  | .bin _ _ _ => true
  | .slice _ _ _ => true
  | .rev _ => true
  | .rg1 _ _ => true
  | .rg2 _ _ _ => true
  | .bf _ _ => true
  | .comp _ _ _ _ _ => true
  | _ => false

def tD (sw : Sw) (b fr : Bool) (m : Ev → M D) : TE := fun σ H Q => ∃ (Mu : Addr → Prop) (env : Ev) (src : Src) (d : D) (src' : Src), JE sw Mu env σ H src ∧ m env src = some (d, src') ∧
  ∀ v H', ExtS sw H H' → SrcOk sw H' src' → RepB b sw Mu H' v d → (fr = true → isSeqOrDict d = true → ∀ a, v = .ref a → H a = none ∧ NoF H' a) → Q v H'
abbrev tE (sw : Sw) (call : Call) (b : Bool) (e : E) : TE := tD sw b (freshE e) (ev call b e)
def tEt (sw : Sw) (call : Call) (e : E) : TT := fun σ H Q => ∃ (Mu : Addr → Prop) (env : Ev) (src : Src) (c : Bool) (src' : Src), JE sw Mu env σ H src ∧ ev call false e env src = some (.bool c, src') ∧
  ∀ H', ExtS sw H H' → SrcOk sw H' src' → Q c H'
def tEs (sw : Sw) (call : Call) (b : Bool) (es : Es) : TA := fun σ H Q => ∃ (Mu : Addr → Prop) (env : Ev) (src : Src) (ds : List D) (src' : Src), JE sw Mu env σ H src ∧ evs call b es env src = some (ds, src') ∧
  ∀ vs H', ExtS sw H H' → SrcOk sw H' src' → Paired (RepB b sw Mu H') vs ds → Q vs H'
def tEo (sw : Sw) (call : Call) (o : Option E) : TO := fun σ H Q => ∃ (Mu : Addr → Prop) (env : Ev) (src : Src) (i : Option Int) (src' : Src), JE sw Mu env σ H src ∧ evCut call o env src = some (i, src') ∧
  ∀ H', ExtS sw H H' → SrcOk sw H' src' → Q i H'

theorem bnd_some {α β : Type} {x : M α} {f : α → M β} {s s' : Src} {r : β} (h : bnd x f s = some (r, s')) : ∃ a s1, x s = some (a, s1) ∧ f a s1 = some (r, s') := by
  unfold bnd at h
  split at h
  · cases h
  · exact ⟨_, _, by assumption, h⟩
theorem lft_some {α : Type} {o : Option α} {s s' : Src} {a : α} (h : lft o s = some (a, s')) : o = some a ∧ s' = s := by
  unfold lft at h
  split at h
  · cases h
  · cases h
    exact ⟨rfl, rfl⟩
theorem ret_some {α : Type} {a x : α} {s s' : Src} (h : ret a s = some (x, s')) : x = a ∧ s' = s := by
  cases h
  exact ⟨rfl, rfl⟩
theorem stuck_some {α : Type} {x : α} {s s' : Src} (h : (stuck : M α) s = some (x, s')) : False := by cases h

section
variable {sw : Sw} {Mu : Addr → Prop} {H H' H'' : Hp} {s s' : Src} {b : Bool}
theorem ExtS.none_back (e : ExtS sw H H') (o : SrcOk sw H' s) {a : Addr} (h : H' a = none) : H a = none := by
  cases q : H a with
  | none => rfl
  | some u =>
    by_cases off : offS sw a
    · rw [e a u q off] at h; cases h
    · refine (off fun p hp => ⟨fun z => ?_, fun z => ?_⟩).elim
      · rw [z, (o p hp).d] at h; cases h
      · rw [z, (o p hp).c] at h; cases h
theorem SrcOk.same (o : SrcOk sw H s) (e : Same H H') : SrcOk sw H' s := fun p hp => ⟨(o p hp).ne, e _ _ (o p hp).d, e _ _ (o p hp).c⟩
/-- from what a reading wants to what an operation gives -/
theorem res_of {d : D} {Q : VK} {fr : Bool} (E : ExtS sw H H') (S : SrcOk sw H' s) (k : ∀ v H'', ExtS sw H H'' → SrcOk sw H'' s → RepB b sw Mu H'' v d → (fr = true → isSeqOrDict d = true → ∀ a, v = .ref a → H a = none ∧ NoF H'' a) → Q v H'') : Res Mu H' d Q :=
  fun v H2 e r f => k v H2 (E.trans (ExtS.of_same e)) (S.same e) (.inl r) fun _ hd a ea => ⟨E.none_back S (f hd a ea).1, (f hd a ea).2⟩
theorem prs_ext {vs : List V} {ds : List D} (e : ExtS sw H H') (m : SwIn sw Mu) (o : SrcOk sw H s) (h : Paired (RepB b sw Mu H) vs ds) : Paired (RepB b sw Mu H') vs ds := by
  induction h with
  | nil => exact .nil
  | cons h t ih => exact .cons (h.ext e m o) ih
theorem prs_rep {vs : List V} {ds : List D} (h : Paired (RepB false sw Mu H) vs ds) : RepAll Mu H vs ds := by
  induction h with
  | nil => exact .nil
  | cons h t ih => exact .cons h.strict ih
theorem prs_bs {vs : List V} {ds : List D} (h : Paired (RepB b sw Mu H) vs ds) : RepBs sw Mu H vs ds := by
  induction h with
  | nil => exact .nil
  | cons h t ih =>
    refine .cons ?_ ih
    rcases h with h | ⟨_, h⟩
    · exact .inl h
    · exact .inr ⟨rfl, h⟩
theorem prs_all {vs : List V} {ds : List D} (h : RepAll Mu H vs ds) : Paired (RepB b sw Mu H) vs ds := by
  induction ds generalizing vs with
  | nil => cases h; exact .nil
  | cons d ds ih =>
    cases h with
    | cons h t => exact .cons (.inl h) (ih t)
theorem prs_app {α β : Type} {F : α → β → Prop} {as cs : List α} {bs ds : List β} (h : Paired F as bs) (k : Paired F cs ds) : Paired F (as ++ cs) (bs ++ ds) := by
  induction h with
  | nil => exact k
  | cons h t ih => exact .cons h ih
end

section
variable {X : Cx} {sw : Sw} {call : Call} {a c : Expr}
theorem pe_imp {e : Expr} {t u : TE} (h : PE X e t) (f : ∀ σ H Q, u σ H Q → t σ H Q) : PE X e u := ⟨fun pins s σ H Q I q => h.run pins s σ H Q I (f σ H Q q)⟩
theorem pt_imp {e : Expr} {t u : TT} (h : PT X e t) (f : ∀ σ H Q, u σ H Q → t σ H Q) : PT X e u := ⟨fun pins s σ H Q I q => h.run pins s σ H Q I (f σ H Q q)⟩
theorem pa_imp {e : List Expr} {t u : TA} (h : PA X e t) (f : ∀ σ H Q, u σ H Q → t σ H Q) : PA X e u := ⟨fun pos pins s σ H Q I q => h.run pos pins s σ H Q I (f σ H Q q)⟩

/-- a value that stands fast -/
theorem e_const {b fr : Bool} {d : D} {v : V} (h : PE X a (tC v)) (r : ∀ Mu H, Rep Mu H v d) (hd : isSeqOrDict d = false) : PE X a (tD sw b fr fun _ => ret d) :=
  pe_imp h fun σ H Q ⟨Mu, env, src, d', src', J, e, k⟩ => by
    obtain ⟨rfl, rfl⟩ := ret_some e
    exact k v H (ExtS.refl sw H) J.src (.inl (r _ _)) fun _ z => by rw [hd] at z; cases z

theorem e_var {N : List Str} {b : Bool} {i : Nat} (hN : X.N = N) (h : slotIs N X.env.scope i a = true) : PE X a (tE sw call b (.var i)) := by
  obtain ⟨x, p, rfl, h1, h2, h3, h4⟩ := slotIs_of h
  subst hN
  refine pe_imp (pe_var (i := i) h1 h2 h3 h4) fun σ H Q ⟨Mu, env, src, d', src', J, e, k⟩ => ?_
  obtain ⟨e1, rfl⟩ := lft_some e
  unfold rdSlot at e1
  split at e1
  · rename_i d hs
    obtain rfl := Option.some.inj e1
    obtain ⟨v, h5, h6⟩ := J.slot i _ hs
    exact ⟨v, h5, k v H (ExtS.refl sw H) J.src (.inl h6) fun z => by cases z⟩
  · rename_i d hs
    split at e1
    · rename_i hb
      obtain rfl := Option.some.inj e1
      obtain ⟨v, h5, h6, h7, h8⟩ := J.slot i _ hs
      exact ⟨_, h5, k _ H (ExtS.refl sw H) J.src (.inr ⟨hb, v, rfl, h6, h7, h8⟩) fun z => by cases z⟩
    · cases e1
  · cases e1

theorem e_tup {N : List Str} {b : Bool} {es : Es} {as : List Expr} {k : Nat} {pos : Pos} (h : PA X as (tEs sw call false es)) : PE X (.Tuple as k pos) (tE sw call b (.tup es)) :=
  pe_imp (pe_tup h) fun σ H Q ⟨Mu, env, src, d', src', J, e, k⟩ => by
    obtain ⟨ds, s1, e1, e2⟩ := bnd_some (show bnd (evs call false es env) _ src = _ from e)
    refine ⟨Mu, env, src, ds, s1, J, e1, fun vs H1 E S P => ?_⟩
    split at e2
    · rename_i hl
      obtain ⟨rfl, rfl⟩ := ret_some e2
      refine ⟨by rw [Paired.length P, ← lim_eq]; exact hl, ?_⟩
      exact (res_of E S k).newT (prs_rep P)
    · exact (stuck_some e2).elim
theorem e_lst {N : List Str} {b : Bool} {es : Es} {as : List Expr} {pos : Pos} (h : PA X as (tEs sw call false es)) : PE X (.List as pos) (tE sw call b (.lst es)) :=
  pe_imp (pe_lst h) fun σ H Q ⟨Mu, env, src, d', src', J, e, k⟩ => by
    obtain ⟨ds, s1, e1, e2⟩ := bnd_some (show bnd (evs call false es env) _ src = _ from e)
    refine ⟨Mu, env, src, ds, s1, J, e1, fun vs H1 E S P => ?_⟩
    split at e2
    · rename_i hl
      obtain ⟨rfl, rfl⟩ := ret_some e2
      refine ⟨by rw [Paired.length P, ← lim_eq]; exact hl, ?_⟩
      exact (res_of E S k).newL (J.ext E S).dom (prs_rep P)
    · exact (stuck_some e2).elim
theorem e_dict0 {b : Bool} {pos : Pos} : PE X (.Dict [] [] pos) (tE sw call b .dict0) :=
  pe_imp pe_dnewK fun σ H Q ⟨Mu, env, src, d', src', J, e, k⟩ => by
    obtain ⟨rfl, rfl⟩ := ret_some (show ret (PyData.dict []) src = _ from e)
    intro p hp
    exact (res_of (ExtS.refl sw H) J.src k) _ _ (same_new hp) (.dK (fun m => J.dom p m hp) (.inl upd_same) .nil) fun _ b eb => by cases eb; exact ⟨hp, nof_upd (by simp)⟩

theorem e_bin {b : Bool} {o : BOp} {x y : E} {l r : Expr} {pos : Pos} (hx : PE X l (tE sw call true x)) (hy : PE X r (tE sw call true y)) : PE X (.BinOp l (pyB o) r pos) (tE sw call b (.bin o x y)) :=
  pe_imp (pe_op (op_bop (sw := sw) o) hx hy) fun σ H Q ⟨Mu, env, src, d', src', J, e, k⟩ => by
    obtain ⟨dx, s1, e1, e2⟩ := bnd_some (show bnd (ev call true x env) _ src = _ from e)
    obtain ⟨dy, s2, e3, e4⟩ := bnd_some e2
    obtain ⟨e5, rfl⟩ := lft_some e4
    refine ⟨Mu, env, src, dx, s1, J, e1, fun vx H1 E1 S1 R1 _ => ?_⟩
    have J1 := J.ext E1 S1
    refine ⟨Mu, env, s1, dy, src', J1, e3, fun vy H2 E2 S2 R2 _ => ?_⟩
    have J2 := J1.ext E2 S2
    exact ⟨Mu, dx, dy, d', J2.dom, R1.ext E2 J1.swm J1.src, R2, e5, res_of (E1.trans E2) S2 k⟩
theorem e_cmp {b : Bool} {o : COp} {x y : E} {l r : Expr} {pos : Pos} (hu : X.A.units + 65 < cLine) (hm : setB r = false) (hx : PE X l (tE sw call true x)) (hy : PE X r (tE sw call true y)) : PE X (.Compare l [pyC o] [r] pos) (tE sw call b (.cmp o x y)) :=
  pe_imp (pe_cmpR (op_cop (sw := sw) hu o) hx hy (marks_of hm)) fun σ H Q ⟨Mu, env, src, d', src', J, e, k⟩ => by
    obtain ⟨dx, s1, e1, e2⟩ := bnd_some (show bnd (ev call true x env) _ src = _ from e)
    obtain ⟨dy, s2, e3, e4⟩ := bnd_some e2
    obtain ⟨cc, s3, e5, e6⟩ := bnd_some e4
    obtain ⟨e7, rfl⟩ := lft_some e5
    obtain ⟨rfl, rfl⟩ := ret_some e6
    refine ⟨Mu, env, src, dx, s1, J, e1, fun vx H1 E1 S1 R1 _ => ?_⟩
    have J1 := J.ext E1 S1
    refine ⟨Mu, env, s1, dy, _, J1, e3, fun vy H2 E2 S2 R2 _ => ?_⟩
    exact ⟨Mu, dx, dy, cc, R1.ext E2 J1.swm J1.src, R2, e7, (res_of (E1.trans E2) S2 k).flat (.bl cc) rfl⟩
theorem t_cmp {o : COp} {x y : E} {l r : Expr} {pos : Pos} (hu : X.A.units + 65 < cLine) (hm : setB r = false) (hx : PE X l (tE sw call true x)) (hy : PE X r (tE sw call true y)) : PT X (.Compare l [pyC o] [r] pos) (tEt sw call (.cmp o x y)) :=
  pt_imp (pt_cmpR (op_cop (sw := sw) hu o) hx hy (marks_of hm)) fun σ H Q ⟨Mu, env, src, d', src', J, e, k⟩ => by
    obtain ⟨dx, s1, e1, e2⟩ := bnd_some (show bnd (ev call true x env) _ src = _ from e)
    obtain ⟨dy, s2, e3, e4⟩ := bnd_some e2
    obtain ⟨cc, s3, e5, e6⟩ := bnd_some e4
    obtain ⟨e7, rfl⟩ := lft_some e5
    cases e6
    refine ⟨Mu, env, src, dx, s1, J, e1, fun vx H1 E1 S1 R1 _ => ?_⟩
    have J1 := J.ext E1 S1
    refine ⟨Mu, env, s1, dy, _, J1, e3, fun vy H2 E2 S2 R2 _ => ?_⟩
    exact ⟨Mu, dx, dy, _, R1.ext E2 J1.swm J1.src, R2, e7, _, rfl, k H2 (E1.trans E2) S2⟩
/-- a test of any form that gives a bool -/
theorem t_val {e : E} (h : PE X a (tE sw call false e)) (hp : ∀ whole, isTrue a X.env whole = (do let v ← whole; standAt a.pos; holding [v] (truthy v))) : PT X a (tEt sw call e) :=
  pt_imp (pt_val h hp) fun σ H Q ⟨Mu, env, src, c, src', J, e, k⟩ => ⟨Mu, env, src, _, src', J, e, fun v H' E S R _ => ⟨c, R.bool, k H' E S⟩⟩

theorem e_neg {b : Bool} {x : E} {l : Expr} {pos : Pos} (hx : PE X l (tE sw call false x)) : PE X (.UnaryOp .USub l pos) (tE sw call b (.neg x)) :=
  pe_imp (pe_un un_neg hx) fun σ H Q ⟨Mu, env, src, d', src', J, e, k⟩ => by
    obtain ⟨dx, s1, e1, e2⟩ := bnd_some (show bnd (ev call false x env) _ src = _ from e)
    refine ⟨Mu, env, src, dx, s1, J, e1, fun vx H1 E1 S1 R1 _ => ?_⟩
    cases dx with
    | int i =>
      obtain ⟨rfl, rfl⟩ := ret_some e2
      obtain rfl := R1.int
      exact ⟨i, rfl, (res_of E1 S1 k).flat (.int _) rfl⟩
    | _ => exact (stuck_some e2).elim
theorem e_not {b : Bool} {x : E} {l : Expr} {pos : Pos} (hx : PE X l (tE sw call false x)) : PE X (.UnaryOp .Not l pos) (tE sw call b (.not_ x)) :=
  pe_imp (pe_not hx) fun σ H Q ⟨Mu, env, src, d', src', J, e, k⟩ => by
    obtain ⟨dx, s1, e1, e2⟩ := bnd_some (show bnd (ev call false x env) _ src = _ from e)
    refine ⟨Mu, env, src, dx, s1, J, e1, fun vx H1 E1 S1 R1 _ => ?_⟩
    cases dx with
    | bool i =>
      obtain ⟨rfl, rfl⟩ := ret_some e2
      obtain rfl := R1.bool
      exact ⟨i, rfl, (res_of E1 S1 k).flat (.bl _) rfl⟩
    | _ => exact (stuck_some e2).elim
theorem t_not {x : E} {l : Expr} {pos : Pos} (hx : PT X l (tEt sw call x)) : PT X (.UnaryOp .Not l pos) (tEt sw call (.not_ x)) :=
  pt_imp (pt_not hx) fun σ H Q ⟨Mu, env, src, c, src', J, e, k⟩ => by
    obtain ⟨dx, s1, e1, e2⟩ := bnd_some (show bnd (ev call false x env) _ src = _ from e)
    cases dx with
    | bool i =>
      cases e2
      exact ⟨Mu, env, src, i, _, J, e1, fun H1 E1 S1 => k H1 E1 S1⟩
    | _ => exact (stuck_some e2).elim
end
end Mp

set_option maxHeartbeats 4000000
/-! L3d: more forms. -/
namespace Mp
open PySem L2 PyProof.Rows PySem.W

section
variable {X : Cx} {sw : Sw} {call : Call} {a c : Expr}
theorem e_andG {b : Bool} {x y : E} {l r : Expr} {rest : List Expr} {pos : Pos} (hx : PE X l (tE sw call false x)) (hy : PE X (.BoolOp .And (r :: rest) pos) (tE sw call false y)) : PE X (.BoolOp .And (l :: r :: rest) pos) (tE sw call b (.and_ x y)) :=
  pe_imp (pe_and hx hy) fun σ H Q ⟨Mu, env, src, d', src', J, e, k⟩ => by
    obtain ⟨dx, s1, e1, e2⟩ := bnd_some (show bnd (ev call false x env) _ src = _ from e)
    refine ⟨Mu, env, src, dx, s1, J, e1, fun vx H1 E1 S1 R1 _ => ?_⟩
    cases dx with
    | bool i =>
      obtain rfl := R1.bool
      refine ⟨i, rfl, ?_⟩
      cases i with
      | true =>
        rw [if_pos rfl]
        obtain ⟨dy, s2, e3, e4⟩ := bnd_some (show bnd (ev call false y env) _ s1 = _ from e2)
        refine ⟨Mu, env, s1, dy, s2, J.ext E1 S1, e3, fun vy H2 E2 S2 R2 _ => ?_⟩
        cases dy with
        | bool j =>
          obtain ⟨rfl, rfl⟩ := ret_some e4
          obtain rfl := R2.bool
          exact (res_of (E1.trans E2) S2 k).flat (.bl _) rfl
        | _ => exact (stuck_some e4).elim
      | false =>
        rw [if_neg Bool.false_ne_true]
        obtain ⟨rfl, rfl⟩ := ret_some (show ret (PyData.bool false) s1 = _ from e2)
        exact (res_of E1 S1 k).flat (.bl _) rfl
    | _ => exact (stuck_some e2).elim
theorem e_orG {b : Bool} {x y : E} {l r : Expr} {rest : List Expr} {pos : Pos} (hx : PE X l (tE sw call false x)) (hy : PE X (.BoolOp .Or (r :: rest) pos) (tE sw call false y)) : PE X (.BoolOp .Or (l :: r :: rest) pos) (tE sw call b (.or_ x y)) :=
  pe_imp (pe_or hx hy) fun σ H Q ⟨Mu, env, src, d', src', J, e, k⟩ => by
    obtain ⟨dx, s1, e1, e2⟩ := bnd_some (show bnd (ev call false x env) _ src = _ from e)
    refine ⟨Mu, env, src, dx, s1, J, e1, fun vx H1 E1 S1 R1 _ => ?_⟩
    cases dx with
    | bool i =>
      obtain rfl := R1.bool
      refine ⟨i, rfl, ?_⟩
      cases i with
      | false =>
        rw [if_neg Bool.false_ne_true]
        obtain ⟨dy, s2, e3, e4⟩ := bnd_some (show bnd (ev call false y env) _ s1 = _ from e2)
        refine ⟨Mu, env, s1, dy, s2, J.ext E1 S1, e3, fun vy H2 E2 S2 R2 _ => ?_⟩
        cases dy with
        | bool j =>
          obtain ⟨rfl, rfl⟩ := ret_some e4
          obtain rfl := R2.bool
          exact (res_of (E1.trans E2) S2 k).flat (.bl _) rfl
        | _ => exact (stuck_some e4).elim
      | true =>
        rw [if_pos rfl]
        obtain ⟨rfl, rfl⟩ := ret_some (show ret (PyData.bool true) s1 = _ from e2)
        exact (res_of E1 S1 k).flat (.bl _) rfl
    | _ => exact (stuck_some e2).elim
theorem e_and1 {b : Bool} {y : E} {op : BoolOp} {r : Expr} {pos : Pos} (hy : PE X r (tE sw call b y)) : PE X (.BoolOp op [r] pos) (tE sw call b y) := pe_one hy
theorem t_and {x y : E} {l r : Expr} {rest : List Expr} {pos : Pos} (hx : PT X l (tEt sw call x)) (hy : PW X (.BoolOp .And (r :: rest) pos) (tEt sw call y)) : PW X (.BoolOp .And (l :: r :: rest) pos) (tEt sw call (.and_ x y)) := by
  have h := pw_and hx hy
  refine ⟨fun wh pins s σ H Q I q => h.run wh pins s σ H Q I ?_⟩
  obtain ⟨Mu, env, src, c, src', J, e, k⟩ := q
  obtain ⟨dx, s1, e1, e2⟩ := bnd_some (show bnd (ev call false x env) _ src = _ from e)
  cases dx with
  | bool i =>
    refine ⟨Mu, env, src, i, s1, J, e1, fun H1 E1 S1 => ?_⟩
    cases i with
    | true =>
      rw [if_pos rfl]
      obtain ⟨dy, s2, e3, e4⟩ := bnd_some (show bnd (ev call false y env) _ s1 = _ from e2)
      cases dy with
      | bool j =>
        cases e4
        exact ⟨Mu, env, s1, _, _, J.ext E1 S1, e3, fun H2 E2 S2 => k H2 (E1.trans E2) S2⟩
      | _ => exact (stuck_some e4).elim
    | false =>
      rw [if_neg Bool.false_ne_true]
      cases (show ret (PyData.bool false) s1 = _ from e2)
      exact k H1 E1 S1
  | _ => exact (stuck_some e2).elim
theorem t_or {x y : E} {l r : Expr} {rest : List Expr} {pos : Pos} (hx : PT X l (tEt sw call x)) (hy : PW X (.BoolOp .Or (r :: rest) pos) (tEt sw call y)) : PW X (.BoolOp .Or (l :: r :: rest) pos) (tEt sw call (.or_ x y)) := by
  have h := pw_or hx hy
  refine ⟨fun wh pins s σ H Q I q => h.run wh pins s σ H Q I ?_⟩
  obtain ⟨Mu, env, src, c, src', J, e, k⟩ := q
  obtain ⟨dx, s1, e1, e2⟩ := bnd_some (show bnd (ev call false x env) _ src = _ from e)
  cases dx with
  | bool i =>
    refine ⟨Mu, env, src, i, s1, J, e1, fun H1 E1 S1 => ?_⟩
    cases i with
    | false =>
      rw [if_neg Bool.false_ne_true]
      obtain ⟨dy, s2, e3, e4⟩ := bnd_some (show bnd (ev call false y env) _ s1 = _ from e2)
      cases dy with
      | bool j =>
        cases e4
        exact ⟨Mu, env, s1, _, _, J.ext E1 S1, e3, fun H2 E2 S2 => k H2 (E1.trans E2) S2⟩
      | _ => exact (stuck_some e4).elim
    | true =>
      rw [if_pos rfl]
      cases (show ret (PyData.bool true) s1 = _ from e2)
      exact k H1 E1 S1
  | _ => exact (stuck_some e2).elim
theorem e_ite {b : Bool} {x y z : E} {p l r : Expr} {pos : Pos} (hz : PT X p (tEt sw call z)) (hx : PE X l (tE sw call false x)) (hy : PE X r (tE sw call false y)) : PE X (.IfExp p l r pos) (tE sw call b (.ite z x y)) :=
  pe_imp (pe_ifExp hz hx hy) fun σ H Q ⟨Mu, env, src, d', src', J, e, k⟩ => by
    obtain ⟨dx, s1, e1, e2⟩ := bnd_some (show bnd (ev call false z env) _ src = _ from e)
    cases dx with
    | bool i =>
      refine ⟨Mu, env, src, i, s1, J, e1, fun H1 E1 S1 => ?_⟩
      cases i with
      | true =>
        rw [if_pos rfl]
        exact ⟨Mu, env, s1, d', src', J.ext E1 S1, e2, fun v H2 E2 S2 R2 _ => k v H2 (E1.trans E2) S2 (.inl R2.strict) fun z => by cases z⟩
      | false =>
        rw [if_neg Bool.false_ne_true]
        exact ⟨Mu, env, s1, d', src', J.ext E1 S1, e2, fun v H2 E2 S2 R2 _ => k v H2 (E1.trans E2) S2 (.inl R2.strict) fun z => by cases z⟩
    | _ => exact (stuck_some e2).elim
theorem t_ite {x y z : E} {p l r : Expr} {pos : Pos} (hz : PT X p (tEt sw call z)) (hx : PT X l (tEt sw call x)) (hy : PT X r (tEt sw call y)) : PT X (.IfExp p l r pos) (tEt sw call (.ite z x y)) := by
  refine ⟨fun pins s σ H Q I q => isTrue_IfExp ?_⟩
  obtain ⟨Mu, env, src, c, src', J, e, k⟩ := q
  obtain ⟨dx, s1, e1, e2⟩ := bnd_some (show bnd (ev call false z env) _ src = _ from e)
  cases dx with
  | bool i =>
    refine thn (hz.run pins s σ H (fun b H1 => b = i ∧ ExtS sw H H1 ∧ SrcOk sw H1 s1) I ⟨Mu, env, src, i, s1, J, e1, fun H1 E1 S1 => ⟨rfl, E1, S1⟩⟩) fun b t1 ⟨H1, I1, eb, E1, S1⟩ => ?_
    subst eb
    cases b with
    | true => exact hx.run pins t1 σ H1 Q I1 ⟨Mu, env, s1, c, src', J.ext E1 S1, e2, fun H2 E2 S2 => k H2 (E1.trans E2) S2⟩
    | false => exact hy.run pins t1 σ H1 Q I1 ⟨Mu, env, s1, c, src', J.ext E1 S1, e2, fun H2 E2 S2 => k H2 (E1.trans E2) S2⟩
  | _ => exact (stuck_some e2).elim

theorem chain_go {x y z : E} {o o' : COp} {σ : L2.St} {H : Hp} {Q : Bool → Hp → Prop} {R : VK} {Mu : Addr → Prop} {env : Ev} {src : Src} {d' : D} {src' : Src} (J : JE sw Mu env σ H src) (e : ev call false (.chain o o' x y z) env src = some (d', src'))
    (k : ∀ c H', d' = .bool c → ExtS sw H H' → SrcOk sw H' src' → R (.bl c) H') : tChain (rCop sw o) (rCop sw o') (tE sw call false x) (tE sw call false y) (tE sw call false z) σ H R := by
  obtain ⟨dx, s1, e1, e2⟩ := bnd_some (show bnd (ev call false x env) _ src = _ from e)
  obtain ⟨dy, s2, e3, e4⟩ := bnd_some e2
  obtain ⟨cc, s3, e5, e6⟩ := bnd_some e4
  obtain ⟨e7, rfl⟩ := lft_some e5
  refine ⟨Mu, env, src, dx, s1, J, e1, fun vx H1 E1 S1 R1 _ => ?_⟩
  have J1 := J.ext E1 S1
  refine ⟨Mu, env, s1, dy, _, J1, e3, fun vy H2 E2 S2 R2 _ => ?_⟩
  have J2 := J1.ext E2 S2
  refine ⟨Mu, dx, dy, cc, .inl (R1.ext E2 J1.swm J1.src).strict, .inl R2.strict, e7, cc, rfl, ?_⟩
  cases cc with
  | true =>
    rw [if_pos rfl]
    obtain ⟨dz, s4, e8, e9⟩ := bnd_some (show bnd (ev call false z env) _ _ = _ from e6)
    obtain ⟨c2, s5, e10, e11⟩ := bnd_some e9
    obtain ⟨e12, rfl⟩ := lft_some e10
    obtain ⟨ed, es⟩ := ret_some e11
    subst es
    refine ⟨Mu, env, _, dz, _, J2, e8, fun vz H3 E3 S3 R3 _ => ?_⟩
    exact ⟨Mu, dy, dz, c2, .inl (R2.ext E3 J2.swm J2.src).strict, .inl R3.strict, e12, k _ _ ed (E1.trans (E2.trans E3)) S3⟩
  | false =>
    rw [if_neg Bool.false_ne_true]
    obtain ⟨ed, es⟩ := ret_some (show ret (PyData.bool false) _ = _ from e6)
    subst es
    exact k _ _ ed (E1.trans E2) S2
theorem lastMarks_of {p q : CmpOp} {r z : Expr} (h : setB z = false) : lastMarks [p, q] [r, z] = false := marks_of h
theorem e_chain {b : Bool} {o o' : COp} {x y z : E} {l r q : Expr} {pos : Pos} (hu : X.A.units + 65 < cLine) (hm : setB q = false) (hx : PE X l (tE sw call false x)) (hy : PE X r (tE sw call false y)) (hz : PE X q (tE sw call false z)) :
    PE X (.Compare l [pyC o, pyC o'] [r, q] pos) (tE sw call b (.chain o o' x y z)) :=
  pe_imp (pe_chain (op_cop (sw := sw) hu o) (op_cop (sw := sw) hu o') hx hy hz (lastMarks_of hm)) fun σ H Q ⟨Mu, env, src, d', src', J, e, k⟩ =>
    chain_go (Q := fun _ _ => True) J e fun c H' ed E S => k _ H' E S (.inl (by rw [ed]; exact .bl c)) fun z => by cases z
theorem t_chain {o o' : COp} {x y z : E} {l r q : Expr} {pos : Pos} (hu : X.A.units + 65 < cLine) (hm : setB q = false) (hx : PE X l (tE sw call false x)) (hy : PE X r (tE sw call false y)) (hz : PE X q (tE sw call false z)) :
    PT X (.Compare l [pyC o, pyC o'] [r, q] pos) (tEt sw call (.chain o o' x y z)) :=
  pt_imp (pt_chain (op_cop (sw := sw) hu o) (op_cop (sw := sw) hu o') hx hy hz (lastMarks_of hm)) fun σ H Q ⟨Mu, env, src, d', src', J, e, k⟩ =>
    chain_go (Q := fun _ _ => True) J e fun c H' ed E S => ⟨c, rfl, by cases ed; exact k H' E S⟩

/-- is None, is a bool -/
theorem non_iff {b : Bool} {Mu : Addr → Prop} {H : Hp} {v : V} {d : D} (h : RepB b sw Mu H v d) : decide (v = .non) = isNoneD d := by
  rcases h with h | ⟨_, a, rfl, _, _, h⟩
  · cases h <;> simp [isNoneD]
  · cases h <;> simp [isNoneD]
theorem is_go {x : E} {l : Expr} {σ : L2.St} {H : Hp} {R : VK} {Mu : Addr → Prop} {env : Ev} {src : Src} {d : D} {s1 : Src} {r : R2} {v : V} (J : JE sw Mu env σ H src) (e1 : ev call true x env src = some (d, s1))
    (k : ∀ w H', ExtS sw H H' → SrcOk sw H' s1 → RepB true sw Mu H' w d → r w v H' R) : tOp r (tE sw call true x) (tC v) σ H R :=
  ⟨Mu, env, src, d, s1, J, e1, fun w H1 E1 S1 R1 _ => k w H1 E1 S1 R1⟩
theorem e_isN {b : Bool} {x : E} {l : Expr} {j : Nat} {p pos : Pos} (hx : PE X l (tE sw call true x)) : PE X (.Compare l [.Is] [.Constant .none j p] pos) (tE sw call b (.isNone x)) :=
  pe_imp (pe_cmpR op_isN hx pe_non rfl) fun σ H Q ⟨Mu, env, src, d', src', J, e, k⟩ => by
    obtain ⟨dx, s1, e1, e2⟩ := bnd_some (show bnd (ev call true x env) _ src = _ from e)
    obtain ⟨rfl, rfl⟩ := ret_some e2
    exact is_go (l := l) J e1 fun w H1 E1 S1 R1 => ⟨rfl, by rw [non_iff R1]; exact (res_of E1 S1 k).flat (.bl _) rfl⟩
theorem t_isN {x : E} {l : Expr} {j : Nat} {p pos : Pos} (hx : PE X l (tE sw call true x)) : PT X (.Compare l [.Is] [.Constant .none j p] pos) (tEt sw call (.isNone x)) :=
  pt_imp (pt_cmpR op_isN hx pe_non rfl) fun σ H Q ⟨Mu, env, src, d', src', J, e, k⟩ => by
    obtain ⟨dx, s1, e1, e2⟩ := bnd_some (show bnd (ev call true x env) _ src = _ from e)
    obtain ⟨ed, rfl⟩ := ret_some e2
    cases ed
    exact is_go (l := l) J e1 fun w H1 E1 S1 R1 => ⟨rfl, _, rfl, by rw [non_iff R1]; exact k H1 E1 S1⟩
theorem e_notN {b : Bool} {x : E} {l : Expr} {j : Nat} {p pos : Pos} (hx : PE X l (tE sw call true x)) : PE X (.Compare l [.IsNot] [.Constant .none j p] pos) (tE sw call b (.notNone x)) :=
  pe_imp (pe_cmpR op_notN hx pe_non rfl) fun σ H Q ⟨Mu, env, src, d', src', J, e, k⟩ => by
    obtain ⟨dx, s1, e1, e2⟩ := bnd_some (show bnd (ev call true x env) _ src = _ from e)
    obtain ⟨rfl, rfl⟩ := ret_some e2
    exact is_go (l := l) J e1 fun w H1 E1 S1 R1 => ⟨rfl, by rw [non_iff R1]; exact (res_of E1 S1 k).flat (.bl _) rfl⟩
theorem t_notN {x : E} {l : Expr} {j : Nat} {p pos : Pos} (hx : PE X l (tE sw call true x)) : PT X (.Compare l [.IsNot] [.Constant .none j p] pos) (tEt sw call (.notNone x)) :=
  pt_imp (pt_cmpR op_notN hx pe_non rfl) fun σ H Q ⟨Mu, env, src, d', src', J, e, k⟩ => by
    obtain ⟨dx, s1, e1, e2⟩ := bnd_some (show bnd (ev call true x env) _ src = _ from e)
    obtain ⟨ed, rfl⟩ := ret_some e2
    cases ed
    exact is_go (l := l) J e1 fun w H1 E1 S1 R1 => ⟨rfl, _, rfl, by rw [non_iff R1]; exact k H1 E1 S1⟩
theorem e_isB {b m : Bool} {x : E} {l : Expr} {j : Nat} {p pos : Pos} (hx : PE X l (tE sw call false x)) : PE X (.Compare l [.Is] [.Constant (.bool m) j p] pos) (tE sw call b (.isB x m)) :=
  pe_imp (pe_cmpR op_is_bl hx pe_bl rfl) fun σ H Q ⟨Mu, env, src, d', src', J, e, k⟩ => by
    obtain ⟨dx, s1, e1, e2⟩ := bnd_some (show bnd (ev call false x env) _ src = _ from e)
    refine ⟨Mu, env, src, dx, s1, J, e1, fun w H1 E1 S1 R1 _ => ?_⟩
    cases dx with
    | bool i =>
      obtain ⟨rfl, rfl⟩ := ret_some e2
      obtain rfl := R1.bool
      exact ⟨i, m, rfl, rfl, (res_of E1 S1 k).flat (.bl _) rfl⟩
    | _ => exact (stuck_some e2).elim
theorem t_isB {m : Bool} {x : E} {l : Expr} {j : Nat} {p pos : Pos} (hx : PE X l (tE sw call false x)) : PT X (.Compare l [.Is] [.Constant (.bool m) j p] pos) (tEt sw call (.isB x m)) :=
  pt_imp (pt_cmpR op_is_bl hx pe_bl rfl) fun σ H Q ⟨Mu, env, src, d', src', J, e, k⟩ => by
    obtain ⟨dx, s1, e1, e2⟩ := bnd_some (show bnd (ev call false x env) _ src = _ from e)
    refine ⟨Mu, env, src, dx, s1, J, e1, fun w H1 E1 S1 R1 _ => ?_⟩
    cases dx with
    | bool i =>
      cases e2
      obtain rfl := R1.bool
      exact ⟨i, m, rfl, rfl, _, rfl, k H1 E1 S1⟩
    | _ => exact (stuck_some e2).elim
theorem e_notB {b m : Bool} {x : E} {l : Expr} {j : Nat} {p pos : Pos} (hx : PE X l (tE sw call false x)) : PE X (.Compare l [.IsNot] [.Constant (.bool m) j p] pos) (tE sw call b (.notB x m)) :=
  pe_imp (pe_cmpR op_isnot_bl hx pe_bl rfl) fun σ H Q ⟨Mu, env, src, d', src', J, e, k⟩ => by
    obtain ⟨dx, s1, e1, e2⟩ := bnd_some (show bnd (ev call false x env) _ src = _ from e)
    refine ⟨Mu, env, src, dx, s1, J, e1, fun w H1 E1 S1 R1 _ => ?_⟩
    cases dx with
    | bool i =>
      obtain ⟨rfl, rfl⟩ := ret_some e2
      obtain rfl := R1.bool
      exact ⟨i, m, rfl, rfl, (res_of E1 S1 k).flat (.bl _) rfl⟩
    | _ => exact (stuck_some e2).elim
theorem t_notB {m : Bool} {x : E} {l : Expr} {j : Nat} {p pos : Pos} (hx : PE X l (tE sw call false x)) : PT X (.Compare l [.IsNot] [.Constant (.bool m) j p] pos) (tEt sw call (.notB x m)) :=
  pt_imp (pt_cmpR op_isnot_bl hx pe_bl rfl) fun σ H Q ⟨Mu, env, src, d', src', J, e, k⟩ => by
    obtain ⟨dx, s1, e1, e2⟩ := bnd_some (show bnd (ev call false x env) _ src = _ from e)
    refine ⟨Mu, env, src, dx, s1, J, e1, fun w H1 E1 S1 R1 _ => ?_⟩
    cases dx with
    | bool i =>
      cases e2
      obtain rfl := R1.bool
      exact ⟨i, m, rfl, rfl, _, rfl, k H1 E1 S1⟩
    | _ => exact (stuck_some e2).elim
end
end Mp

set_option maxHeartbeats 4000000
/-! L2u: d.update(e); flat values. -/
namespace Mp
open PySem L2 PyProof.Rows PySem.W

section
variable {X : Cx}
def rUpdate (X : Cx) : V → List V → Hp → VK → Prop := fun x xs H Q => ∃ a o : Addr, x = .ref a ∧ xs = [.ref o] ∧ a ≠ o ∧ ((∃ l, H a = some (.dK l)) ∨ ∃ l, H a = some (.dT l)) ∧
  ((∃ acc more, KRd H a acc ∧ KRd H o more ∧ acc.length + more.length ≤ sizeLine ∧ Q .non (upd H a (.dK (mergeK acc more)))) ∨
    ∃ acc more, TRd H a acc ∧ TRd H o more ∧ acc.length + more.length ≤ sizeLine ∧ (acc ≠ [] ∨ ((more.map (·.1)).map (tupleKeyHash (mixKind X.prog X.w))).Nodup) ∧
      Q .non (upd H a (.dT (more.foldl (fun acc p => putK acc p.1 p.2) acc))))
theorem kt_keys {H : Hp} : ∀ {l : List (List Key × V)} {m : List (List Key × Addr × Value)}, KT H l m → l.map (·.1) = m.map (·.1)
  | _, _, .nil => rfl
  | _, _, .cons h t => by rw [List.map_cons, List.map_cons, kt_keys t, h.1]
theorem kt_tys {pins : List (Addr × Obj)} {σ : L2.St} {H : Hp} {s : Shared} (I : Inv X pins σ H s) : ∀ {l : List (List Key × V)} {m : List (List Key × Addr × Value)}, KT H l m → ∀ x ∈ m, s.TypeIs (.ref x.2.1) "tuple"
  | _, _, .nil => fun x hx => by cases hx
  | _, _, .cons h t => fun x hx => by
    rcases List.mem_cons.mp hx with rfl | hx
    · exact IsTupleKey.typeIs (key_of I.hok h.2.1)
    · exact kt_tys I t x hx
theorem kt_merge {H : Hp} : ∀ {more : List (List Key × V)} {ps : List (List Key × Addr × Value)} {acc : List (List Key × V)} {xs : List (List Key × Addr × Value)}, KT H more ps → KT H acc xs → KT H (more.foldl (fun acc p => putK acc p.1 p.2) acc) (storedAllH xs ps)
  | _, _, _, _, .nil, h => h
  | _, _, acc, xs, .cons (a := p) (b := q) h t, h2 => by
    obtain ⟨e, hq, rv⟩ := h
    obtain ⟨k, y⟩ := p
    obtain ⟨k', b, u⟩ := q
    simp only at e hq rv
    subst e
    have z := kt_merge t (h2.put k hq rv)
    exact z
theorem foldl_putK_len : ∀ (more acc : List (List Key × V)), (more.foldl (fun acc p => putK acc p.1 p.2) acc).length ≤ acc.length + more.length
  | [], _ => Nat.le_refl _
  | q :: r, acc => by
    rw [List.foldl_cons]
    refine Nat.le_trans (foldl_putK_len r _) ?_
    have := length_putK acc q.1 q.2
    rw [List.length_cons]
    omega
theorem mt_update (hu : X.A.units + 100 < cLine) : MtR X "dict.update" (rUpdate X) := by
  intro pins s σ H x xs v us Q I rx rxs h
  obtain ⟨a, o, rfl, rfl, hne, hw, h⟩ := h
  have hmu : Mut (H a) := by
    rcases hw with ⟨l, e⟩ | ⟨l, e⟩ <;> (rw [e]; exact True.intro)
  cases rx
  obtain ⟨u, rfl, ru⟩ := rxs.one
  cases ru
  rcases h with ⟨acc, more, ha, ho, hz, q⟩ | ⟨acc, more, ha, ho, hz, hap, q⟩
  · obtain ⟨z, hd, vs, rel, dd⟩ := krd_ok I.hok ha
    obtain ⟨z', hd', vs', rel', dd'⟩ := krd_ok I.hok ho
    refine call_meetsIn PySem.F.slot_dict_update dd.typeIs PySem.F.entry_dict_update (PySem.F.args_dict_update_2 _ _) (meets_dict_update (mixKind X.prog X.w) a o hne hd')
      ⟨vs, vs', dd, dd', by rw [← rel.length, ← rel'.length]; exact hz, fun h' d1 d2 hs => ?_⟩
    have he : ∃ q, h'.get? a = some q := let ⟨q, _, _, hq, _⟩ := d1; ⟨q, hq⟩
    exact ⟨.non, _, d_write (t' := s.toks) I hmu hs he (dk_new (Nat.le_trans (length_mergeK more acc) hz) hd (KV.merge rel' rel) d1), rfl, q⟩
  · obtain ⟨z, hd, vs, rel, dd⟩ := trd_ok I.hok ha
    obtain ⟨z', hd', vs', rel', dd'⟩ := trd_ok I.hok ho
    refine PySem.call_update_dictH (knd := tupleKind (mixKind X.prog X.w)) (tupleKind_room_in1 (by omega)) hne hd' dd dd' ?_ (by rw [← Paired.length rel, ← Paired.length rel']; exact hz) fun h' d1 d2 hs => ?_
    · rcases hap with e | e
      · refine .inl fun z => e ?_
        subst z
        exact List.length_eq_zero_iff.mp (by rw [Paired.length rel]; rfl)
      · refine .inr ⟨kt_tys I rel', ?_⟩
        have : (vs'.map fun x => tupleKeyHash (mixKind X.prog X.w) x.1) = (more.map (·.1)).map (tupleKeyHash (mixKind X.prog X.w)) := by
          rw [kt_keys rel', List.map_map]
          rfl
        exact this ▸ e
    · obtain ⟨ob, es, ep, hq, h2, h3, h4, _, h5⟩ := d1
      have new : ObjOk X.prog X.w (upd H a (.dT (more.foldl (fun acc p => putK acc p.1 p.2) acc))) h' a (.dT (more.foldl (fun acc p => putK acc p.1 p.2) acc)) :=
        ⟨Nat.le_trans (foldl_putK_len more acc) hz, hd, storedAllH vs vs', (KT.keeps (kt_merge rel' rel) fun c ys ec => by rw [upd_ne (fun e => by rcases hw with ⟨l, e'⟩ | ⟨l, e'⟩ <;> (rw [e, e'] at ec; cases ec))]; exact ec), ob, es, ep, hq, h2, h3, h4, h5⟩
      exact ⟨.non, _, d_write (t' := s.toks) I hmu hs ⟨ob, hq⟩ new, rfl, q⟩
end

/-! ### flat values -/
theorem flat_rep {Mu : Addr → Prop} {H : Hp} {v : V} {d : D} (h : Rep Mu H v d) (f : flatD d = true) : flatV v = true := by
  cases h <;> first | rfl | exact absurd f (by simp [flatD])
theorem flat_eqv {Mu : Addr → Prop} {H : Hp} {v w : V} {d e : D} (h : Rep Mu H v d) (k : Rep Mu H w e) (f : flatD d = true) (g : flatD e = true) : eqV v w = d.eqv e := by
  cases h <;> cases k <;> first | rfl | (simp only [eqV, PyData.eqv]; done) | exact absurd f (by simp [flatD]) | exact absurd g (by simp [flatD])
theorem flat_all {Mu : Addr → Prop} {H : Hp} : ∀ {vs : List V} {ds : List D}, RepAll Mu H vs ds → ds.all flatD = true → vs.all flatV = true
  | _, _, .nil, _ => rfl
  | _, _, .cons h t, f => by
    rw [List.all_cons, Bool.and_eq_true] at f
    rw [List.all_cons, flat_rep h f.1, flat_all t f.2]
    rfl
end Mp

set_option maxHeartbeats 4000000
/-! L2v: t[::-1] of tuples. -/
namespace Mp
open PySem L2 PyProof.Rows PySem.W HT

section
variable {prog : Program} {w : World} {A : Around} {E : Value → Shared → Prop} {s : Shared}
theorem sliceApplied_rev {sl : Addr} {vl vu vs : Value} {n : Nat} {Q : Int × Int × Nat → Shared → Prop} (hs : s.heap.IsSliceOf sl vl vu vs) (pl : IsPart vl none) (pu : IsPart vu none) (ps : IsPart vs (some (-1)))
    (h : Q ((n : Int) - 1, -1, n) s) : wpAny (model prog w) A (Builtin.Slice.sliceApplied (.ref sl) (pure (n : Int))) Q E s := by
  obtain ⟨os, hos, hcs, hds⟩ := id hs
  unfold Builtin.Slice.sliceApplied Builtin.Slice.sliceFields
  refine wpAny_bind (wpAny_bind (wpAny_field hos hds (x := vl) rfl (wpAny_bind (wpAny_field hos hds (x := vu) rfl (wpAny_bind (wpAny_field hos hds (x := vs) rfl (wpAny_pure ?_)))))))
  refine wpAny_bind (slicePart_ ps ?_)
  show wpAny _ _ (if ((-1 : Int) == 0) = true then _ else _) _ _ s
  rw [if_neg (by decide)]
  refine wpAny_bind (slicePart_ pl (wpAny_bind (slicePart_ pu (wpAny_bind (wpAny_pure ?_)))))
  show wpAny _ _ (pure ((n : Int) - 1, (-1 : Int), Builtin.Slice.slicePlaces ((n : Int) - 1) (-1) (-1))) _ _ s
  have e : Builtin.Slice.slicePlaces ((n : Int) - 1) (-1) (-1) = n := by
    unfold Builtin.Slice.slicePlaces
    rw [if_neg (by decide)]
    split
    · rw [show (- -1 : Int) = 1 by decide, Int.ediv_one]
      omega
    · omega
  rw [e]
  exact wpAny_pure h
theorem fm_congr {α β : Type} {f g : α → Option β} : ∀ {l : List α}, (∀ k ∈ l, f k = g k) → l.filterMap f = l.filterMap g
  | [], _ => rfl
  | x :: l, h => by
    rw [List.filterMap_cons, List.filterMap_cons, h x (.head _), fm_congr fun k hk => h k (.tail _ hk)]
theorem pick_rev (xs : Array Value) : ((List.range xs.size).filterMap fun (m : Nat) => xs[(((xs.size : Int) - 1) + (m : Int) * -1).toNat]?).toArray = xs.toList.reverse.toArray := by
  have h := krv_all xs
  have e : ((List.range xs.size).filterMap fun (m : Nat) => xs[(((xs.size : Int) - 1) + (m : Int) * -1).toNat]?) = (List.range xs.size).reverse.filterMap (xs[·]?) := by
    rw [← krv_range, List.filterMap_map]
    refine fm_congr fun k hk => ?_
    have := List.mem_range.mp hk
    have e2 : (((xs.size : Int) - 1) + (k : Int) * -1).toNat = xs.size - 1 - k := by omega
    rw [e2]
    rfl
  rw [e, List.filterMap_reverse, h]
theorem getItem_tuple_rev {t sl : Addr} {items : Array Value} {vl vu vs : Value} {Q : Value → Shared → Prop} (ht : IsTup s.heap t items) (hs : s.heap.IsSliceOf sl vl vu vs) (pl : IsPart vl none) (pu : IsPart vu none) (ps : IsPart vs (some (-1)))
    (h : Q (.ref s.heap.objs.size) { s with heap := s.heap.push { cls := .type "tuple", data := .seq items.toList.reverse.toArray } })
    (hsz : items.size ≤ sizeLine) : wpAny (model prog w) A (getItem (.ref t) (.ref sl)) Q E s := by
  have htake : sizeOk (.seq items.toList.reverse.toArray) := by
    show items.toList.reverse.toArray.size ≤ sizeLine
    rw [List.size_toArray, List.length_reverse, Array.length_toList]
    exact hsz
  obtain ⟨os, hos, hcs, hds⟩ := id hs
  have hTs : s.TypeIs (.ref sl) "slice" := ⟨os, hos, hcs⟩
  unfold getItem
  try with_reducible refine wpAny_holding ?_
  first | refine wpAny_bind (wpAny_pure ?_) | skip
  refine wpAny_bind (wpAny_sequenceKey ht.typeIs (by decide) ?_)
  refine wpAny_bind (wpAny_callSpecial?_slot (name := Str.ofString "__getitem__") ht.typeIs PyProof.Rows.slot_tuple_getitem
    (wpAny_call_entry PyProof.Rows.slot_tuple_getitem ht.typeIs entry_tuple_getitem ?_ (args_tuple_getitem _ _)))
  show wpAny _ _ (Builtin.Tuple.tupleItemsOf (.ref t) >>= _) _ _ s
  refine wpAny_bind (tupleItemsOf_ ht ?_)
  refine wpAny_bind (wpAny_typeOf hTs ?_)
  rw [if_pos (by decide)]
  refine wpAny_bind (sliceApplied_rev hs pl pu ps ?_)
  have hno : ¬ ((((items.size : Int) - 1) == 0 && (-1 : Int) == 1 && items.size == items.size) = true) := by
    rw [Bool.and_eq_true, Bool.and_eq_true]
    exact fun q => absurd q.1.2 (by decide)
  show wpAny _ _ (if (((items.size : Int) - 1) == 0 && (-1 : Int) == 1 && items.size == items.size) = true then _ else _) _ _ s
  rw [if_neg hno, pick_rev]
  first
    | exact wpAny_bind (m := Builtin.Tuple.tupleExact _) (wpAny_newObj_type (wpAny_pure ⟨_, rfl, wpAny_pure h⟩) htake)
    | exact wpAny_bind (m := Builtin.Tuple.tupleExact _) (wpAny_newObj_type (wpAny_bind (wpAny_pure (wpAny_pure ⟨_, rfl, wpAny_pure h⟩))) htake)
    | exact wpAny_bind (wpAny_bind (m := Builtin.Tuple.tupleExact _) (wpAny_newObj_type (wpAny_pure (wpAny_pure ⟨_, rfl, wpAny_pure h⟩)) htake))
    | exact wpAny_bind (wpAny_bind (m := Builtin.Tuple.tupleExact _) (wpAny_newObj_type (wpAny_pure ⟨_, rfl, wpAny_pure h⟩) htake))
end
section
variable {X : Cx}
def tRevT (K : PySem.W.Frag) (te : TE) : TE := fun σ H Q => te σ H fun x H1 => ∃ a xs, x = .ref a ∧ SqT K H1 a xs ∧ ∀ p, H1 p = none → Q (.ref p) (upd H1 p (.tup xs.reverse))
theorem pe_revT {e : Expr} {te : TE} {k : Nat} {p1 p2 p3 pos : Pos} (he : PE X e te) : PE X (.Subscript e (.Slice none none (some (.UnaryOp .USub (.Constant (.int 1) k p1) p2)) p3) pos) (tRevT X.K te) := by
  refine ⟨fun pins s σ H Q I h => ?_⟩
  refine Subscript_ (thn (he.run pins s σ H _ I h) fun v s1 ⟨x, H1, I1, r1, q1⟩ => ?_)
  obtain ⟨a, xs, ex, hx, q⟩ := q1
  subst ex
  cases r1
  have hst : PO X (some (.UnaryOp .USub (.Constant (.int 1) k p1) p2)) (tPart (tUn (rU fun i => .int (-i)) (tC (.int 1)))) := po_some (pe_un un_neg pe_int)
  refine wpAny_Slice (thn (po_none.run pins s1 σ H1 (fun o H2 => o = none ∧ H2 = H1) I1 ⟨rfl, rfl⟩) fun vl s2 ⟨l, H2, I2, pl, el, e2⟩ => ?_)
  subst el e2
  refine thn (po_none.run pins s2 σ H2 (fun o H3 => o = none ∧ H3 = H2) I2 ⟨rfl, rfl⟩) fun vu s3 ⟨u, H3, I3, pu, eu, e3⟩ => ?_
  subst eu e3
  refine thn (hst.run pins s3 σ H3 (fun o H4 => o = some (-1) ∧ H4 = H3) I3 ⟨1, rfl, -1, rfl, rfl, rfl⟩) fun vs s4 ⟨o, H4, I4, ps, eo, e4⟩ => ?_
  subst eo e4
  have I5 : Inv X pins σ H4 { s4 with heap := s4.heap.push { cls := .type "slice", data := .fields #[vl, vu, vs] } } := I4.kept (t' := s4.toks) fun b ob q => Heap.get?_push_of_some _ q
  obtain ⟨its, r, ht, hz⟩ := I5.tuple hx
  have hlen := r.length
  show wpAny (model X.prog X.w) X.A (subscriptTail e (.Slice none none (some (.UnaryOp .USub (.Constant (.int 1) k p1) p2)) p3) (.ref a) (.ref s4.heap.objs.size)) (EP X pins σ Q) X.xe { s4 with heap := s4.heap.push { cls := .type "slice", data := .fields #[vl, vu, vs] } }
  refine tail_any (ops := [.ref a, .ref s4.heap.objs.size]) ht.typeIs (PyProof.Rows.slot_tuple_getitem.lookup) ?_ (by with_unfolding_all rfl)
  refine getItem_tuple_rev ht (Heap.IsSliceOf.new _ vl vu vs) pl pu ps ?_ (by rw [List.size_toArray]; omega)
  refine ⟨.ref _, _, I5.laid (t' := s4.toks) (o := .tup xs.reverse) (fun b ob q => Heap.get?_push_of_some _ q) (Nat.le_refl _) ?_, rfl, q _ (I5.hok.fresh (Nat.le_refl _))⟩
  exact ⟨by rw [List.length_reverse]; exact hz, _, r.reverse, IsTup.new _ _⟩
end
end Mp

set_option maxHeartbeats 4000000
/-! L3e: subscripts, slices, calls, argument lists. -/
namespace Mp
open PySem L2 PyProof.Rows PySem.W

theorem boot_kit : (∀ f : Bf, bootBuiltins (sN (nmF f)) = some (pyF f)) ∧ (∀ t : Ty, bootBuiltins (sN (nmT t)) = some (.type (nmT t))) ∧ bootBuiltins (sN "isinstance") = some (.builtin "isinstance") := by
  refine ⟨fun f => ?_, fun t => ?_, ?_⟩
  · cases f <;> exact (by decide +kernel)
  · cases t <;> exact (by decide +kernel)
  · decide +kernel
theorem nm_kit : (∀ f : Bf, nmF f ∈ kitNames) ∧ (∀ t : Ty, nmT t ∈ kitNames) := by
  refine ⟨fun f => ?_, fun t => ?_⟩
  · cases f <;> decide
  · cases t <;> decide
theorem kit_plain : ∀ x ∈ kitNames, sN x ≠ "__name__" ∧ (sN x == ("__debug__" : Str)) = false := by decide +kernel

section
variable {X : Cx} {sw : Sw} {call : Call} {a c : Expr} {fs : List String} {N : List Str}

theorem e_idx {b : Bool} {x y : E} {l r : Expr} {pos : Pos} (O : XOk call fs N X) (hm : slicedB r = false) (hx : PE X l (tE sw call true x)) (hy : PE X r (tE sw call false y)) : PE X (.Subscript l r pos) (tE sw call b (.idx x y)) :=
  pe_imp (pe_ix (ix_any (sw := sw) (by have := O.units; omega)) hx hy (plainIx_of hm)) fun σ H Q ⟨Mu, env, src, d', src', J, e, k⟩ => by
    obtain ⟨dx, s1, e1, e2⟩ := bnd_some (show bnd (ev call true x env) _ src = _ from e)
    obtain ⟨dy, s2, e3, e4⟩ := bnd_some e2
    obtain ⟨e5, es⟩ := lft_some e4
    subst es
    refine ⟨Mu, env, src, dx, s1, J, e1, fun vx H1 E1 S1 R1 _ => ?_⟩
    have J1 := J.ext E1 S1
    refine ⟨Mu, env, s1, dy, _, J1, e3, fun vy H2 E2 S2 R2 _ => ?_⟩
    exact ⟨Mu, dx, dy, d', R1.ext E2 J1.swm J1.src, R2.strict, e5, fun v r => k v H2 (E1.trans E2) S2 (.inl r) fun z => by cases z⟩

theorem sl_lens {α β : Type} {xs : List α} {ys : List β} (h : xs.length = ys.length) (lo hi : Option Int) : HT.sIx xs.length 0 lo = HT.sIx ys.length 0 lo ∧ HT.sIx xs.length xs.length hi = HT.sIx ys.length ys.length hi := by rw [h]; exact ⟨rfl, rfl⟩
theorem rep_cut {Mu : Addr → Prop} {H : Hp} {vs : List V} {ds : List D} (h : RepAll Mu H vs ds) (lo hi : Option Int) : RepAll Mu H (cutV vs lo hi) (cutD ds lo hi) := by
  rw [← cut_eq]
  unfold cutV
  rw [h.length]
  exact (h.drop _).take _

theorem e_slice {b : Bool} {x : E} {lo hi : Option E} {l : Expr} {p q : Option Expr} {p2 pos : Pos} (hx : PE X l (tE sw call true x)) (hp : PO X p (tEo sw call lo)) (hq : PO X q (tEo sw call hi)) : PE X (.Subscript l (.Slice p q .none p2) pos) (tE sw call b (.slice x lo hi)) := by
  have any : SlR X (fun v lo hi H Q => rSlL X.K v lo hi H Q ∨ rSlA X.K v lo hi H Q) := fun pins s σ H x v vl vu lo hi sl Q I rx hs i1 i2 h =>
    h.elim (fun h => sl_list pins s σ H x v vl vu lo hi sl Q I rx hs i1 i2 h) fun h => sl_tupA pins s σ H x v vl vu lo hi sl Q I rx hs i1 i2 h
  refine pe_imp (pe_slice any hx hp hq) fun σ H Q ⟨Mu, env, src, d', src', J, e, k⟩ => ?_
  obtain ⟨dx, s1, e1, e2⟩ := bnd_some (show bnd (ev call true x env) _ src = _ from e)
  obtain ⟨lo', s2, e3, e4⟩ := bnd_some e2
  obtain ⟨hi', s3, e5, e6⟩ := bnd_some e4
  obtain ⟨e7, hes⟩ := lft_some e6
  subst hes
  refine ⟨Mu, env, src, dx, s1, J, e1, fun vx H1 E1 S1 R1 _ => ?_⟩
  have J1 := J.ext E1 S1
  refine ⟨Mu, env, s1, lo', s2, J1, e3, fun H2 E2 S2 => ?_⟩
  have J2 := J1.ext E2 S2
  refine ⟨Mu, env, s2, hi', _, J2, e5, fun H3 E3 S3 => ?_⟩
  have J3 := J2.ext E3 S3
  have R3 := (R1.ext E2 J1.swm J1.src).ext E3 J2.swm J2.src
  have rs := res_of (E1.trans (E2.trans E3)) S3 k
  cases dx with
  | list xs =>
    obtain rfl := Option.some.inj (show some (PyData.list (cutD xs lo' hi')) = some d' from e7)
    obtain ⟨a, vs, rfl, ha, ra⟩ := R3.list
    exact .inl ⟨a, vs, rfl, SqL.of ha, rs.newL J3.dom (rep_cut ra lo' hi')⟩
  | tuple xs =>
    obtain rfl := Option.some.inj (show some (PyData.tuple (cutD xs lo' hi')) = some d' from e7)
    obtain ⟨a, vs, rfl, ha, ra⟩ := R3.tuple
    refine .inr ⟨a, vs, rfl, SqT.of ha, fun hw => ?_, fun _ => rs.newT (rep_cut ra lo' hi')⟩
    have e8 : cutD xs lo' hi' = xs := by
      rw [ra.length] at hw
      rw [← cut_eq, hw.1, hw.2, List.drop_zero, Nat.sub_zero, List.take_length]
    rw [e8] at rs
    exact rs.flat (.tup ha ra) rfl
  | _ => cases e7
theorem e_rev {b : Bool} {x : E} {l : Expr} {k : Nat} {p1 p2 p3 pos : Pos} (hx : PE X l (tE sw call true x)) :
    PE X (.Subscript l (.Slice .none .none (.some (.UnaryOp .USub (.Constant (.int 1) k p1) p2)) p3) pos) (tE sw call b (.rev x)) := by
  refine ⟨fun pins s σ H Q I ⟨Mu, env, src, d', src', J, e, k⟩ => ?_⟩
  obtain ⟨dx, s1, e1, e2⟩ := bnd_some (show bnd (ev call true x env) _ src = _ from e)
  obtain ⟨e5, es⟩ := lft_some e2
  subst es
  cases dx with
  | list xs =>
    obtain rfl := Option.some.inj (show some (PyData.list xs.reverse) = some d' from e5)
    refine (pe_revL hx).run pins s σ H Q I ⟨Mu, env, src, _, _, J, e1, fun vx H1 E1 S1 R1 _ => ?_⟩
    obtain ⟨a, vs, rfl, ha, ra⟩ := R1.list
    exact ⟨a, vs, rfl, SqL.of ha, (res_of E1 S1 k).newL (J.ext E1 S1).dom ra.reverse⟩
  | tuple xs =>
    obtain rfl := Option.some.inj (show some (PyData.tuple xs.reverse) = some d' from e5)
    refine (pe_revT hx).run pins s σ H Q I ⟨Mu, env, src, _, _, J, e1, fun vx H1 E1 S1 R1 _ => ?_⟩
    obtain ⟨a, vs, rfl, ha, ra⟩ := R1.tuple
    exact ⟨a, vs, rfl, SqT.of ha, (res_of E1 S1 k).newT ra.reverse⟩
  | _ => cases e5

theorem rep_rg {Mu : Addr → Prop} {H : Hp} (a c : Int) : RepAll Mu H (rgV a c) (rangeD a c) := by
  unfold rgV rangeD
  induction (List.range (c - a).toNat) with
  | nil => exact .nil
  | cons x r ih => exact .cons (.int _) ih
theorem e_rg1 {b tp : Bool} {x : E} {f g l : Expr} {p q : Pos} (O : XOk call fs N X) (hf : nameIs X.env.scope (if tp then "tuple" else "list") f = true) (hg : nameIs X.env.scope "range" g = true) (hs : starredB l = false) (hx : PE X l (tE sw call false x)) :
    PE X (.Call f [.Call g [l] [] p] [] q) (tE sw call b (.rg1 tp x)) := by
  obtain ⟨pf, rfl, gf⟩ := nameIs_of hf
  obtain ⟨pg, rfl, gg⟩ := nameIs_of hg
  have pr := prg_1 (p := pg) (pos := p) gg (O.kit "range" (by decide)) hx (star_head hs)
  have key : ∀ {σ : L2.St} {H : Hp} {Q : VK}, tE sw call b (.rg1 tp x) σ H Q → tRg1 (tE sw call false x) σ H fun a c H1 => RgOk a c ∧ ∃ Mu, (∀ y, Mu y → H1 y ≠ none) ∧ Res Mu H1 (if tp then PyData.tuple (rangeD a c) else .list (rangeD a c)) Q := fun {σ H Q} ⟨Mu, env, src, d', src', J, e, k⟩ => by
    obtain ⟨d, s1, e1, e2⟩ := bnd_some (show bnd (ev call false x env) _ src = _ from e)
    refine ⟨Mu, env, src, d, s1, J, e1, fun v H1 E1 S1 R1 _ => ?_⟩
    cases d with
    | int i =>
      have e2' : (if (rangeOk i && decide (i.toNat ≤ lim)) = true then ret (if tp = true then PyData.tuple (rangeD 0 i) else .list (rangeD 0 i)) else stuck) s1 = some (d', src') := e2
      split at e2'
      · rename_i hc
        rw [Bool.and_eq_true, decide_eq_true_eq, lim_eq, sizeLine_eq] at hc
        obtain ⟨rfl, rfl⟩ := ret_some e2'
        obtain rfl := R1.int
        have ok := of_decide_eq_true hc.1
        refine ⟨i, rfl, ⟨by omega, by omega, ok.1, ok.2, ?_⟩, Mu, (J.ext E1 S1).dom, res_of E1 S1 k⟩
        rw [Int.sub_zero]
        exact hc.2
      · exact (stuck_some e2').elim
    | _ => exact (stuck_some e2).elim
  cases tp with
  | true =>
    exact pe_imp (pe_tupRg (p := pf) (pos := q) O.calm gf (O.kit "tuple" (by decide)) pr rfl) fun σ H Q h => by
      obtain ⟨Mu, env, src, d, s1, J, e1, k⟩ := key h
      exact ⟨Mu, env, src, d, s1, J, e1, fun v H1 E S R fr => let ⟨n, ev, ok, Mu', dm, rs⟩ := k v H1 E S R fr; ⟨n, ev, ok, fun z hz => rs.newT (rep_rg 0 n) z hz⟩⟩
  | false =>
    exact pe_imp (pe_listRg (p := pf) (pos := q) O.calm gf (O.kit "list" (by decide)) pr rfl) fun σ H Q h => by
      obtain ⟨Mu, env, src, d, s1, J, e1, k⟩ := key h
      exact ⟨Mu, env, src, d, s1, J, e1, fun v H1 E S R fr => let ⟨n, ev, ok, Mu', dm, rs⟩ := k v H1 E S R fr; ⟨n, ev, ok, fun z hz => rs.newL dm (rep_rg 0 n) z hz⟩⟩
theorem e_rg2 {b tp : Bool} {x y : E} {f g l r : Expr} {p q : Pos} (O : XOk call fs N X) (hf : nameIs X.env.scope (if tp then "tuple" else "list") f = true) (hg : nameIs X.env.scope "range" g = true) (hs : starredB l = false) (ht : starredB r = false) (hx : PE X l (tE sw call false x)) (hy : PE X r (tE sw call false y)) :
    PE X (.Call f [.Call g [l, r] [] p] [] q) (tE sw call b (.rg2 tp x y)) := by
  obtain ⟨pf, rfl, gf⟩ := nameIs_of hf
  obtain ⟨pg, rfl, gg⟩ := nameIs_of hg
  have pr := prg_2 (p := pg) (pos := p) gg (O.kit "range" (by decide)) hx hy (star_head hs) (star_head ht) (star_any (es := [r]) (by simp [ht]))
  have key : ∀ {σ : L2.St} {H : Hp} {Q : VK}, tE sw call b (.rg2 tp x y) σ H Q → tRg2 (tE sw call false x) (tE sw call false y) σ H fun a c H1 => RgOk a c ∧ ∃ Mu, (∀ y, Mu y → H1 y ≠ none) ∧ Res Mu H1 (if tp then PyData.tuple (rangeD a c) else .list (rangeD a c)) Q := fun {σ H Q} ⟨Mu, env, src, d', src', J, e, k⟩ => by
    obtain ⟨d, s1, e1, e2⟩ := bnd_some (show bnd (ev call false x env) _ src = _ from e)
    obtain ⟨d2, s2, e3, e4⟩ := bnd_some e2
    refine ⟨Mu, env, src, d, s1, J, e1, fun v H1 E1 S1 R1 _ => ?_⟩
    have J1 := J.ext E1 S1
    refine ⟨Mu, env, s1, d2, s2, J1, e3, fun v2 H2 E2 S2 R2 _ => ?_⟩
    cases d with
    | int i =>
      cases d2 with
      | int j =>
        have e4' : (if (rangeOk i && rangeOk j && decide ((j - i).toNat ≤ lim)) = true then ret (if tp = true then PyData.tuple (rangeD i j) else .list (rangeD i j)) else stuck) s2 = some (d', src') := e4
        split at e4'
        · rename_i hc
          rw [Bool.and_eq_true, Bool.and_eq_true, decide_eq_true_eq, lim_eq, sizeLine_eq] at hc
          obtain ⟨rfl, rfl⟩ := ret_some e4'
          obtain rfl := R1.int
          obtain rfl := R2.int
          have o1 := of_decide_eq_true hc.1.1
          have o2 := of_decide_eq_true hc.1.2
          exact ⟨i, j, rfl, rfl, ⟨o1.1, o1.2, o2.1, o2.2, hc.2⟩, Mu, (J1.ext E2 S2).dom, res_of (E1.trans E2) S2 k⟩
        · exact (stuck_some e4').elim
      | _ => exact (stuck_some e4).elim
    | _ => exact (stuck_some e4).elim
  have mono : ∀ {σ : L2.St} {H : Hp} {P Q : Int → Int → Hp → Prop}, (∀ a c H1, P a c H1 → Q a c H1) → tRg2 (tE sw call false x) (tE sw call false y) σ H P → tRg2 (tE sw call false x) (tE sw call false y) σ H Q := fun {σ H P Q} f ⟨Mu, env, src, d, s1, J, e1, k⟩ =>
    ⟨Mu, env, src, d, s1, J, e1, fun v H1 E S R fr => let ⟨Mu2, env2, src2, d2, s2, J2, e2, k2⟩ := k v H1 E S R fr; ⟨Mu2, env2, src2, d2, s2, J2, e2, fun v2 H2 E2 S2 R2 fr2 => let ⟨i, j, h1, h2, h3⟩ := k2 v2 H2 E2 S2 R2 fr2; ⟨i, j, h1, h2, f _ _ _ h3⟩⟩⟩
  cases tp with
  | true => exact pe_imp (pe_tupRg (p := pf) (pos := q) O.calm gf (O.kit "tuple" (by decide)) pr rfl) fun σ H Q h => mono (fun a c H1 ⟨ok, Mu', dm, rs⟩ => ⟨ok, fun z hz => rs.newT (rep_rg a c) z hz⟩) (key h)
  | false => exact pe_imp (pe_listRg (p := pf) (pos := q) O.calm gf (O.kit "list" (by decide)) pr rfl) fun σ H Q h => mono (fun a c H1 ⟨ok, Mu', dm, rs⟩ => ⟨ok, fun z hz => rs.newL dm (rep_rg a c) z hz⟩) (key h)

theorem e_isinst {b : Bool} {t : Ty} {x : E} {l f r : Expr} {pos : Pos} (O : XOk call fs N X) (hf : nameIs X.env.scope "isinstance" f = true) (hr : nameIs X.env.scope (nmT t) r = true) (hs : starredB l = false) (hx : PE X l (tE sw call true x)) :
    PE X (.Call f [l, r] [] pos) (tE sw call b (.isinst t x)) := by
  obtain ⟨pf, rfl, gf⟩ := nameIs_of hf
  obtain ⟨pr, rfl, gr⟩ := nameIs_of hr
  have k1 := kit_plain "isinstance" (by decide)
  have k2 := kit_plain (nmT t) (nm_kit.2 t)
  have ht : PE X (.Name (sN (nmT t)) pr) (tC (.ty (nmT t))) := pe_bltn gr (O.kit _ (nm_kit.2 t)) (boot_kit.2.1 t) rfl k2.1 k2.2
  refine pe_imp (pe_callB (call_ist (sw := sw) t) gf (O.kit _ (by decide)) boot_kit.2.2 (pa_cons hx (pa_cons ht pa_nil) (star_head hs)) k1.1 k1.2 (star_head hs) rfl) fun σ H Q ⟨Mu, env, src, d', src', J, e, k⟩ => ?_
  obtain ⟨dx, s1, e1, e2⟩ := bnd_some (show bnd (ev call true x env) _ src = _ from e)
  obtain ⟨rfl, rfl⟩ := ret_some e2
  exact ⟨Mu, env, src, dx, _, J, e1, fun vx H1 E1 S1 R1 _ => ⟨Mu, vx, dx, rfl, R1, (res_of E1 S1 k).flat (.bl _) rfl⟩⟩

theorem cr_imp {f : Value} {r u : List V → Hp → VK → Prop} (h : CallR X f r) (i : ∀ vs H Q, u vs H Q → r vs H Q) : CallR X f u := fun pins s σ H vs us Q I r q => h pins s σ H vs us Q I r (i _ _ _ q)
theorem e_bf {b : Bool} {f : Bf} {es : Es} {g l : Expr} {as : List Expr} {pos : Pos} (O : XOk call fs N X) (hf : nameIs X.env.scope (nmF f) g = true) (hs : (l :: as).any starredB = false) (ha : PA X (l :: as) (tEs sw call (f != .repr) es)) :
    PE X (.Call g (l :: as) [] pos) (tE sw call b (.bf f es)) := by
  obtain ⟨pf, rfl, gf⟩ := nameIs_of hf
  have k1 := kit_plain (nmF f) (nm_kit.1 f)
  rw [List.any_cons, Bool.or_eq_false_iff] at hs
  have cf := call_bf (X := X) (sw := sw) O.calm O.guards (by have := O.units; omega) f
  have fin : PE X (.Call (.Name (sN (nmF f)) pf) (l :: as) [] pos) (tCB (rBf1 sw f) (tEs sw call (f != .repr) es)) := by
    have hb := boot_kit.1 f
    have hm := O.kit _ (nm_kit.1 f)
    cases f with
    | tuple => exact pe_callTy cf gf hm hb ha k1.1 k1.2 (star_head hs.1) (star_any hs.2)
    | list => exact pe_callTy cf gf hm hb ha k1.1 k1.2 (star_head hs.1) (star_any hs.2)
    | dict => exact pe_callTy cf gf hm hb ha k1.1 k1.2 (star_head hs.1) (star_any hs.2)
    | int => exact pe_callTy cf gf hm hb ha k1.1 k1.2 (star_head hs.1) (star_any hs.2)
    | _ => exact pe_callB cf gf hm hb ha k1.1 k1.2 (star_head hs.1) (star_any hs.2)
  refine pe_imp fin fun σ H Q ⟨Mu, env, src, d', src', J, e, k⟩ => ?_
  obtain ⟨ds, s1, e1, e2⟩ := bnd_some (show bnd (evs call (f != .repr) es env) _ src = _ from e)
  obtain ⟨e5, hes⟩ := lft_some e2
  subst hes
  refine ⟨Mu, env, src, ds, _, J, e1, fun vs H1 E1 S1 P => ?_⟩
  refine ⟨Mu, ds, d', (J.ext E1 S1).dom, prs_bs P, fun hf x hx d hd => ?_, e5, res_of E1 S1 k⟩
  subst hf
  have P' : Paired (RepB false sw Mu H1) vs ds := P
  have q := prs_rep P'
  have len1 : ∃ d0, ds = [d0] := by
    unfold bf at e5
    split at e5 <;> first | exact ⟨_, rfl⟩ | (rename_i e2; cases e2) | cases e5
  obtain ⟨d0, rfl⟩ := len1
  cases q with
  | cons q t =>
    cases t
    rw [List.mem_singleton.mp hx, List.mem_singleton.mp hd]
    exact q

/-! ### argument lists -/
theorem a_nil {b : Bool} : PA X [] (tEs sw call b .nil) := pa_imp pa_nil fun σ H Q ⟨Mu, env, src, ds, src', J, e, k⟩ => by
  obtain ⟨rfl, rfl⟩ := ret_some (show ret [] src = _ from e)
  exact k [] H (ExtS.refl sw H) J.src .nil
theorem a_cons {b : Bool} {e : E} {r : Es} {l : Expr} {as : List Expr} (hs : starredB l = false) (he : PE X l (tE sw call b e)) (hr : PA X as (tEs sw call b r)) : PA X (l :: as) (tEs sw call b (.cons e r)) :=
  pa_imp (pa_cons he hr (star_head hs)) fun σ H Q ⟨Mu, env, src, ds, src', J, h, k⟩ => by
    obtain ⟨d, s1, e1, e2⟩ := bnd_some (show bnd (ev call b e env) _ src = _ from h)
    obtain ⟨ds', s2, e3, e4⟩ := bnd_some e2
    obtain ⟨rfl, rfl⟩ := ret_some e4
    refine ⟨Mu, env, src, d, s1, J, e1, fun v H1 E1 S1 R1 _ => ?_⟩
    have J1 := J.ext E1 S1
    refine ⟨Mu, env, s1, ds', _, J1, e3, fun vs H2 E2 S2 P2 => ?_⟩
    exact k _ H2 (E1.trans E2) S2 (.cons (R1.ext E2 J1.swm J1.src) P2)
theorem a_star {b : Bool} {e : E} {r : Es} {l : Expr} {as : List Expr} {p : Pos} (he : PE X l (tE sw call true e)) (hr : PA X as (tEs sw call b r)) : PA X (.Starred l p :: as) (tEs sw call b (.star e r)) :=
  pa_imp (StX.pa_star he hr rfl) fun σ H Q ⟨Mu, env, src, ds, src', J, h, k⟩ => by
    obtain ⟨d, s1, e1, e2⟩ := bnd_some (show bnd (ev call true e env) _ src = _ from h)
    obtain ⟨xs, s2, e3, e4⟩ := bnd_some e2
    obtain ⟨e5, hes⟩ := lft_some e3
    subst hes
    obtain ⟨ds', s3, e6, e7⟩ := bnd_some e4
    obtain ⟨rfl, rfl⟩ := ret_some e7
    refine ⟨Mu, env, src, d, _, J, e1, fun v H1 E1 S1 R1 _ => ?_⟩
    have J1 := J.ext E1 S1
    obtain ⟨a, vs, rfl, ra, ha⟩ := R1.seq e5
    refine ⟨a, vs, rfl, ?_, ?_⟩
    · rcases ha with ⟨_, ha⟩ | ⟨_, ha⟩
      · exact .inr (SqL.of ha)
      · exact .inl (SqT.of ha)
    · refine ⟨Mu, env, _, ds', _, J1, e6, fun ws H2 E2 S2 P2 => ?_⟩
      exact k _ H2 (E1.trans E2) S2 (prs_app (prs_all (RepAll.keeps (E2.keeps J1.swm J1.src) ra)) P2)

theorem o_none : PO X .none (tEo sw call .none) := ⟨fun pins s σ H Q I ⟨Mu, env, src, i, src', J, e, k⟩ => by
  obtain ⟨rfl, rfl⟩ := ret_some (show ret Option.none src = _ from e)
  exact po_none.run pins s σ H Q I (k H (ExtS.refl sw H) J.src)⟩
theorem o_some {e : E} {l : Expr} (he : PE X l (tE sw call false e)) : PO X (.some l) (tEo sw call (.some e)) := ⟨fun pins s σ H Q I ⟨Mu, env, src, i, src', J, h, k⟩ => by
  obtain ⟨d, s1, e1, e2⟩ := bnd_some (show bnd (ev call false e env) _ src = _ from h)
  refine (po_some he).run pins s σ H Q I ⟨Mu, env, src, d, s1, J, e1, fun v H1 E1 S1 R1 _ => ?_⟩
  cases d with
  | int j =>
    obtain ⟨rfl, rfl⟩ := ret_some e2
    obtain rfl := R1.int
    exact ⟨j, rfl, k H1 E1 S1⟩
  | _ => exact (stuck_some e2).elim⟩
end
end Mp

set_option maxHeartbeats 4000000
/-! L3f: d.get, calls of the program's own defs, targets. -/
namespace Mp
open PySem L2 PyProof.Rows PySem.W

section
variable {X : Cx} {sw : Sw} {call : Call} {a c : Expr} {fs : List String} {N : List Str}

theorem e_get {b : Bool} {x y z : E} {l e f : Expr} {p q : Pos} (O : XOk call fs N X) (hb : callNoBase l = true) (h1 : starredB e = false) (h2 : starredB f = false) (hl : (p.endLine == q.line) = true)
    (hx : PE X l (tE sw call true x)) (hy : PE X e (tE sw call false y)) (hz : PE X f (tE sw call false z)) : PE X (.Call (.Attribute l "get" p) [e, f] [] q) (tE sw call b (.me .get x (.cons y (.cons z .nil)))) := by
  have m : M2 X l "get" p e f q := ⟨base_of hb, by rw [star_head h1, star_head h2]; rfl, hl, by rw [star_head h1, star_head h2]; rfl⟩
  refine pe_imp (pe_get2 (by have := O.units; omega) hx hy hz m) fun σ H Q ⟨Mu, env, src, d', src', J, e, k⟩ => ?_
  obtain ⟨dx, s1, e1, e2⟩ := bnd_some (show bnd (ev call true x env) _ src = _ from e)
  obtain ⟨ds, s2, e3, e4⟩ := bnd_some e2
  obtain ⟨e5, hes⟩ := lft_some e4
  subst hes
  obtain ⟨dy, s3, f1, f2⟩ := bnd_some (show bnd (ev call false y env) _ s1 = _ from e3)
  obtain ⟨dr, s4, f3, f4⟩ := bnd_some f2
  obtain ⟨rfl, rfl⟩ := ret_some f4
  obtain ⟨dz, s5, g1, g2⟩ := bnd_some (show bnd (ev call false z env) _ s3 = _ from f3)
  obtain ⟨dn, s6, g3, g4⟩ := bnd_some g2
  obtain ⟨rfl, rfl⟩ := ret_some g4
  obtain ⟨rfl, rfl⟩ := ret_some (show ret [] s5 = _ from g3)
  cases dx with
  | dict kvs =>
    have e' : (if keyFits kvs dy = true then some ((dget kvs dy).getD dz) else none) = some d' := e5
    split at e'
    · rename_i hf
      refine ⟨Mu, env, src, _, s1, J, e1, fun vx H1 E1 S1 R1 _ => ?_⟩
      have J1 := J.ext E1 S1
      refine ⟨?_, Mu, env, s1, dy, _, J1, f1, fun vy H2 E2 S2 R2 _ => ?_⟩
      · obtain ⟨a, rfl, hh⟩ := R1.dict
        exact ⟨a, rfl, hh.imp (fun ⟨ks, h, _⟩ => ⟨ks, h⟩) fun ⟨ks, h, _⟩ => ⟨ks, h⟩⟩
      have J2 := J1.ext E2 S2
      refine ⟨Mu, env, s3, dz, _, J2, g1, fun vz H3 E3 S3 R3 _ => ?_⟩
      have Rx := (R1.ext E2 J1.swm J1.src).ext E3 J2.swm J2.src
      have Ry := R2.ext E3 J2.swm J2.src
      obtain ⟨a, o, ea, g, hv⟩ := dg_of Rx Ry hf
      refine ⟨a, o, ea, g, ?_⟩
      obtain rfl := Option.some.inj e'
      rcases hv with ⟨rfl, h4, _⟩ | ⟨v, d, rfl, h4, _, h5⟩
      · rw [h4] at k
        exact k _ H3 (E1.trans (E2.trans E3)) S3 (.inl R3.strict) fun z => by cases z
      · rw [h4] at k
        exact k _ H3 (E1.trans (E2.trans E3)) S3 (.inl h5) fun z => by cases z
    · cases e'
  | _ => cases e5

/-! ### what a call of the program's own def leaves -/
mutual
theorem rep_pure {Mu Mu' : Addr → Prop} {H : Hp} : ∀ (d : D) {v : V}, isPure d = true → Rep Mu H v d → Rep Mu' H v d
  | .none, _, _, h => by cases h; exact .non
  | .bool b, _, _, h => by cases h; exact .bl b
  | .int i, _, _, h => by cases h; exact .int i
  | .str x, _, _, h => by cases h; exact .str x
  | .list ds, _, z, _ => by cases z
  | .dict ds, _, z, _ => by cases z
  | .tuple ds, _, z, h => by
    cases h with
    | tup h1 h2 => exact .tup h1 (rep_pureAll ds (by simpa [isPure] using z) h2)
theorem rep_pureAll {Mu Mu' : Addr → Prop} {H : Hp} : ∀ (ds : List D) {vs : List V}, isPureAll ds = true → RepAll Mu H vs ds → RepAll Mu' H vs ds
  | [], _, _, h => by cases h; exact .nil
  | d :: ds, _, z, h => by
    cases h with
    | cons h1 h2 =>
      rw [isPureAll, Bool.and_eq_true] at z
      exact .cons (rep_pure d z.1 h1) (rep_pureAll ds z.2 h2)
end
mutual
/-- a tree without a list, where what is owned and not Mu' are lists -/
theorem rep_noL {Mu Mu' : Addr → Prop} {H : Hp} (hk : ∀ a, Mu a → ¬ Mu' a → ∃ xs, H a = some (.lst xs)) : ∀ (d : D) {v : V}, hasL d = false → Rep Mu' H v d → Rep Mu H v d
  | .none, _, _, h => by cases h; exact .non
  | .bool b, _, _, h => by cases h; exact .bl b
  | .int i, _, _, h => by cases h; exact .int i
  | .str x, _, _, h => by cases h; exact .str x
  | .list ds, _, z, _ => by cases z
  | .tuple ds, _, z, h => by
    cases h with
    | tup h1 h2 => exact .tup h1 (rep_noLAll hk ds (by simpa [hasL] using z) h2)
  | .dict ds, _, z, h => by
    have nm : ∀ {a : Addr} {u : HO}, ¬ Mu' a → Rd H a u → (∀ xs, u ≠ .lst xs) → ¬ Mu a := fun {a u} n rd nl m => by
      obtain ⟨xs, hx⟩ := hk a m n
      rcases rd with rd | ⟨o, rd⟩
      · rw [hx] at rd; exact nl _ (Option.some.inj rd).symm
      · rw [hx] at rd; cases rd
    cases h with
    | dK h1 h2 h3 => exact .dK (nm h1 h2 (by simp)) h2 (rep_noLK hk ds (by simpa [hasL] using z) h3)
    | dT h0 h1 h2 h3 => exact .dT h0 (nm h1 h2 (by simp)) h2 (rep_noLT hk ds (by simpa [hasL] using z) h3)
theorem rep_noLAll {Mu Mu' : Addr → Prop} {H : Hp} (hk : ∀ a, Mu a → ¬ Mu' a → ∃ xs, H a = some (.lst xs)) : ∀ (ds : List D) {vs : List V}, hasLAll ds = false → RepAll Mu' H vs ds → RepAll Mu H vs ds
  | [], _, _, h => by cases h; exact .nil
  | d :: ds, _, z, h => by
    cases h with
    | cons h1 h2 =>
      rw [hasLAll, Bool.or_eq_false_iff] at z
      exact .cons (rep_noL hk d z.1 h1) (rep_noLAll hk ds z.2 h2)
theorem rep_noLK {Mu Mu' : Addr → Prop} {H : Hp} (hk : ∀ a, Mu a → ¬ Mu' a → ∃ xs, H a = some (.lst xs)) : ∀ (ds : List (D × D)) {vs : List (Key × V)}, hasLKv ds = false → RepK Mu' H vs ds → RepK Mu H vs ds
  | [], _, _, h => by cases h; exact .nil
  | (c, d) :: ds, _, z, h => by
    cases h with
    | cons h1 h2 =>
      rw [hasLKv, Bool.or_eq_false_iff] at z
      exact .cons (rep_noL hk d z.1 h1) (rep_noLK hk ds z.2 h2)
theorem rep_noLT {Mu Mu' : Addr → Prop} {H : Hp} (hk : ∀ a, Mu a → ¬ Mu' a → ∃ xs, H a = some (.lst xs)) : ∀ (ds : List (D × D)) {vs : List (List Key × V)}, hasLKv ds = false → RepT Mu' H vs ds → RepT Mu H vs ds
  | [], _, _, h => by cases h; exact .nil
  | (c, d) :: ds, _, z, h => by
    cases h with
    | cons h1 h2 =>
      rw [hasLKv, Bool.or_eq_false_iff] at z
      exact .cons (rep_noL hk d z.1 h1) (rep_noLT hk ds z.2 h2)
end
/-- the source's own things alone -/
def muS (sw : Sw) : Addr → Prop := fun a => ∃ p, sw = some p ∧ (a = p.1 ∨ a = p.2)
theorem not_muS {a : Addr} (h : offS sw a) : ¬ muS sw a := fun ⟨p, hp, e⟩ => by
  rcases e with e | e
  · exact (h p hp).1 e
  · exact (h p hp).2 e
theorem off_of {Mu : Addr → Prop} (m : SwIn sw Mu) {a : Addr} (h : ¬ Mu a) : offS sw a := fun p hp => ⟨fun q => h (q ▸ (m p hp).1), fun q => h (q ▸ (m p hp).2)⟩
theorem keeps_muS {Mu : Addr → Prop} {H : Hp} (m : SwIn sw Mu) : Keeps Mu H (muS sw) H :=
  ⟨fun a u h r => ⟨not_muS (off_of m h), r⟩, fun a u h r => ⟨not_muS (off_of m h), r⟩, fun a u h r => ⟨not_muS (off_of m h), r⟩, fun _ _ h => h⟩
theorem rep_muS {b : Bool} {Mu : Addr → Prop} {H : Hp} {v : V} {d : D} (m : SwIn sw Mu) (h : RepB b sw Mu H v d) : Rep (muS sw) H v d := by
  rcases h with h | ⟨_, a, rfl, _, off, h⟩
  · exact h.keeps (keeps_muS m)
  · cases h with
    | lst h1 h2 => exact .lst (not_muS off) h1 (RepAll.keeps (keeps_muS m) h2)
    | dK h1 h2 => exact .dK (not_muS off) h1 (RepK.keeps (keeps_muS m) h2)
    | dT h0 h1 h2 => exact .dT h0 (not_muS off) h1 (RepT.keeps (keeps_muS m) h2)
theorem reps_muS {b : Bool} {Mu : Addr → Prop} {H : Hp} {vs : List V} {ds : List D} (m : SwIn sw Mu) (h : Paired (RepB b sw Mu H) vs ds) : RepAll (muS sw) H vs ds := by
  induction h with
  | nil => exact .nil
  | cons h t ih => exact .cons (rep_muS m h) ih

theorem call_go {k : Option Nat} {f : String} {n : Nat} {b : Bool} {d : D} {Mu : Addr → Prop} {env : Ev} {σ : L2.St} {H H1 : Hp} {s1 src' : Src} {vs ws : List V} {ds : List D} {Q : VK} {bw : Bool} (J : JE sw Mu env σ H1 s1) (E1 : ExtS sw H H1) (P : Paired (RepB bw sw Mu H1) ws ds)
    (hv : match k.isSome with | true => ∃ p, sw = some p ∧ vs = .ref p.1 :: ws | false => vs = ws) (hn : vs.length = n) (e : bnd (call f k.isSome ds) (fun d => if (bw && !(isPure d || (ds.all noDict && !hasL d))) = true then stuck else ret d) s1 = some (d, src'))
    (k' : ∀ v H', ExtS sw H H' → SrcOk sw H' src' → RepB b sw Mu H' v d → (false = true → isSeqOrDict d = true → ∀ a, v = .ref a → H a = none ∧ NoF H' a) → Q v H') : spF call f n vs H1 Q (fun _ _ _ => False) := by
  obtain ⟨d0, s2, e1, e2⟩ := bnd_some e
  refine ⟨hn, ?_⟩
  cases bw with
  | false =>
    obtain ⟨rfl, rfl⟩ := ret_some (show ret d0 s2 = _ from e2)
    exact ⟨sw, Mu, k.isSome, ws, ds, s1, d, _, J.src, J.swm, J.dom, hv, prs_rep P, e1, fun v H' E S R => k' v H' (E1.trans E) S (.inl R) fun z => by cases z⟩
  | true =>
    cases hp : isPure d0 with
    | false =>
      rw [hp] at e2
      cases hl : (ds.all noDict && !hasL d0) with
      | false =>
        rw [hl] at e2
        exact (stuck_some (show stuck s2 = _ from e2)).elim
      | true =>
        rw [hl] at e2
        obtain ⟨rfl, rfl⟩ := ret_some (show ret d0 s2 = _ from e2)
        rw [Bool.and_eq_true, Bool.not_eq_true'] at hl
        have inMu : ∀ a, muS sw a → Mu a := fun a ⟨p, hp, ha⟩ => by
          rcases ha with rfl | rfl
          · exact (J.swm p hp).1
          · exact (J.swm p hp).2
        let Mu' : Addr → Prop := fun a => (Mu a ∧ ∀ xs, H1 a ≠ some (.lst xs)) ∨ muS sw a
        have sub : ∀ a, Mu' a → Mu a := fun a h => h.elim (·.1) (inMu a)
        have kp : Keeps Mu H1 Mu' H1 := ⟨fun a u h r => ⟨fun z => h (sub a z), r⟩, fun a u h r => ⟨fun z => h (sub a z), r⟩, fun a u h r => ⟨fun z => h (sub a z), r⟩, fun _ _ h => h⟩
        have args : ∀ {ws : List V} {ds : List D}, Paired (RepB true sw Mu H1) ws ds → (∀ d ∈ ds, noDict d = true) → RepAll Mu' H1 ws ds := by
          intro ws ds P
          induction P with
          | nil => intro _; exact .nil
          | cons h t ih =>
            intro hd
            refine .cons ?_ (ih fun d hd' => hd d (.tail _ hd'))
            rcases h with h | ⟨_, a, rfl, _, off, h⟩
            · exact h.keeps kp
            · cases h with
              | lst h1 h2 => exact .lst (fun z => z.elim (fun z => z.2 _ h1) (not_muS off)) h1 (RepAll.keeps kp h2)
              | dK h1 h2 => cases hd _ (.head _)
              | dT h0 h1 h2 => cases hd _ (.head _)
        refine ⟨sw, Mu', k.isSome, ws, ds, s1, d, _, J.src, fun p hp => ⟨.inr ⟨p, hp, .inl rfl⟩, .inr ⟨p, hp, .inr rfl⟩⟩, fun a ha => J.dom a (sub a ha), hv, args P (List.all_eq_true.mp hl.1), e1, fun v H' E S R => k' v H' (E1.trans E) S (.inl (rep_noL (fun a m n => ?_) d hl.2 R)) fun z => by cases z⟩
        have nS : ¬ muS sw a := fun z => n (.inr z)
        have off : offS sw a := fun p hp => ⟨fun z => nS ⟨p, hp, .inl z⟩, fun z => nS ⟨p, hp, .inr z⟩⟩
        refine Classical.byContradiction fun no => n (.inl ⟨m, fun xs hx => no ⟨xs, E a _ hx off⟩⟩)
    | true =>
      rw [hp] at e2
      obtain ⟨rfl, rfl⟩ := ret_some (show ret d0 s2 = _ from e2)
      refine ⟨sw, muS sw, k.isSome, ws, ds, s1, d, _, J.src, fun p hp => ⟨⟨p, hp, .inl rfl⟩, ⟨p, hp, .inr rfl⟩⟩, fun a ⟨p, hp, ha⟩ => ?_, hv, reps_muS J.swm P, e1, fun v H' E S R => k' v H' (E1.trans E) S (.inl (rep_pure d hp R)) fun z => by cases z⟩
      rcases ha with rfl | rfl
      · exact J.dom _ (J.swm p hp).1
      · exact J.dom _ (J.swm p hp).2

theorem e_call {b : Bool} {f : String} {k : Option Nat} {es : Es} {g l : Expr} {as : List Expr} {pos : Pos} (O : XOk call fs N X)
    (hg : nameIs X.env.scope f g = true) (hf : f ∈ fs) (hd : (sN f == sN "__debug__") = false) (hs : (l :: as).any starredB = false)
    (ha : match k with
      | none => ∀ bw, PA X (l :: as) (tEs sw call bw es)
      | some i => slotIs N X.env.scope i l = true ∧ ∀ bw, PA X as (tEs sw call bw es)) : PE X (.Call g (l :: as) [] pos) (tE sw call b (.call f k es)) := by
  obtain ⟨pg, rfl, gg⟩ := nameIs_of hg
  obtain ⟨kk, fa, fd, ps, h1, h2, F, hr, hb, arity⟩ := O.fns f hf
  rw [List.any_cons, Bool.or_eq_false_iff] at hs
  refine ⟨fun pins s σ H Q I ⟨Mu, env, src, d', src', J, e, k'⟩ => ?_⟩
  obtain ⟨ds, s1, e1, e2⟩ := bnd_some (show bnd (evs call (borrows env es) es env) _ src = _ from e)
  split at e2
  · rename_i hsrc
    have arr : ds.length + (k.isSome).toNat = ps.length := by
      obtain ⟨d0, s2, e3, _⟩ := bnd_some e2
      exact arity _ _ _ _ e3
    cases k with
    | none =>
      have pe := pe_callG (p := pg) (pos := pos) (E := fun _ _ _ => False) F hr O.guards gg h1 h2 hb (ha (borrows env es)) hd (star_head hs.1) (star_any hs.2)
      refine pe.run pins s σ H Q I ⟨Mu, env, src, ds, s1, J, e1, fun vs H1 E1 S1 P => ?_⟩
      refine call_go (k := none) (J.ext E1 S1) E1 P rfl ?_ e2 k'
      rw [Paired.length P]; simpa using arr
    | some i =>
      obtain ⟨hl, ha⟩ := ha
      obtain ⟨x, p, rfl, x1, x2, x3, x4⟩ := slotIs_of hl
      have hN := O.names
      subst hN
      have pe := pe_callG (p := pg) (pos := pos) (E := fun _ _ _ => False) F hr O.guards gg h1 h2 hb (pa_cons (pe_var (pos := p) (i := i) x1 x2 x3 x4) (ha (borrows env es))) hd rfl (star_any hs.2)
      have sl : ∃ p, sw = some p ∧ σ[i]? = some (some (.ref p.1)) := by
        have hsrc' : isSrc env i = true := hsrc
        unfold isSrc at hsrc'
        split at hsrc'
        · rename_i hh
          exact J.slot i _ hh
        · cases hsrc'
      obtain ⟨pp, hpp, hσ⟩ := sl
      refine pe.run pins s σ H Q I ⟨.ref pp.1, hσ, Mu, env, src, ds, s1, J, e1, fun vs H1 E1 S1 P => ?_⟩
      refine call_go (k := some i) (J.ext E1 S1) E1 P ⟨pp, hpp, rfl⟩ ?_ e2 k'
      rw [List.length_cons, Paired.length P]; simpa using arr
  · exact (stuck_some e2).elim
end
end Mp

set_option maxHeartbeats 4000000
/-! L3ff: xs.index(y), xs.count(y) of lists; len(set(xs)). -/
namespace Mp
open PySem L2 PyProof.Rows PySem.W

section
variable {X : Cx} {sw : Sw} {call : Call} {fs : List String} {N : List Str}
theorem e_me1 {b : Bool} {m : Me} {x y : E} {l e : Expr} {p q : Pos} (O : XOk call fs N X) (hb : callNoBase l = true) (h1 : starredB e = false) (hl : (p.endLine == q.line) = true)
    (hx : PE X l (tE sw call true x)) (hy : PE X e (tE sw call false y)) : PE X (.Call (.Attribute l (sN (nmM m)) p) [e] [] q) (tE sw call b (.me1 m x y)) := by
  have pa : PA X [e] (tCons (tE sw call false y) tNil) := pa_cons hy pa_nil (star_head h1)
  have few : ((backTo q (starEach [e] X.env)).all (fun x => !x.1) && (backToKw q (keywordEach [] X.env)).all (fun x => x.1.isSome) && decide (([e] : List Expr).length + ([] : List Keyword).length + (if ([] : List Keyword).isEmpty then 0 else 1) < 30)) = true := by
    rw [star_head h1]; rfl
  refine ⟨fun pins s σ H Q I ⟨Mu, env, src, d', src', J, e0, k⟩ => ?_⟩
  obtain ⟨dx, s1, e1, e2⟩ := bnd_some (show bnd (ev call true x env) _ src = _ from e0)
  obtain ⟨dy, s2, e3, e4⟩ := bnd_some e2
  obtain ⟨e5, hes⟩ := lft_some e4
  subst hes
  cases m with
  | get => cases dx <;> cases e5
  | index =>
    cases dx with
    | list xs =>
      have e5' : (if (flatD dy && xs.all flatD) = true then (xs.findIdx? fun z => z.eqv dy).map fun (j : Nat) => PyData.int (j : Int) else none) = some d' := e5
      split at e5'
      · rename_i hf
        rw [Bool.and_eq_true] at hf
        obtain ⟨j, hj, rfl⟩ := Option.map_eq_some_iff.mp e5'
        obtain ⟨jl, j1, j2⟩ := List.findIdx?_eq_some_iff_getElem.mp hj
        refine (pe_bm PySem.F.plainAttrs_list PySem.F.slot_list_index PySem.F.type_list_index mt_index hx pa (base_of hb) few hl (star_head h1) rfl).run pins s σ H Q I ⟨Mu, env, src, _, s1, J, e1, fun vx H1 E1 S1 R1 _ => ?_⟩
        have J1 := J.ext E1 S1
        obtain ⟨a, vs, rfl, ha, ra⟩ := R1.list
        refine ⟨.inl ⟨rfl, vs, SqL.of ha⟩, Mu, env, s1, dy, _, J1, e3, fun vy H2 E2 S2 R2 _ => ?_⟩
        obtain ⟨a', vs', ea, ha2, ra2⟩ := (R1.ext E2 J1.swm J1.src).list
        cases ea
        have ry := R2.strict
        obtain ⟨z, hz, rz⟩ := ra2.get (List.getElem?_eq_getElem jl)
        refine ⟨a, vs', vy, j, z, rfl, rfl, SqL.of ha2, flat_rep ry hf.1, flat_all ra2 hf.2, hz, ?_, fun m z' hm hz' => ?_, k _ H2 (E1.trans E2) S2 (.inl (.int _)) fun z => by cases z⟩
        · rw [flat_eqv rz ry (List.all_eq_true.mp hf.2 _ (List.getElem_mem jl)) hf.1]
          exact j1
        · have ml : m < xs.length := Nat.lt_trans hm jl
          obtain ⟨w, hw, rw⟩ := ra2.get (List.getElem?_eq_getElem ml)
          rw [hz'] at hw
          cases hw
          rw [flat_eqv rw ry (List.all_eq_true.mp hf.2 _ (List.getElem_mem ml)) hf.1]
          exact Bool.eq_false_iff.mpr (j2 m hm)
      · cases e5'
    | _ => cases dy <;> cases e5
  | count =>
    cases dx with
    | list xs =>
      cases dy with
      | int i =>
        obtain ⟨ns, hns, rfl⟩ := Option.map_eq_some_iff.mp (show (asInts xs).map (fun ns => PyData.int (ns.count i : Nat)) = some d' from e5)
        refine (pe_bm PySem.F.plainAttrs_list PySem.F.slot_list_count PySem.F.type_list_count mt_lcount hx pa (base_of hb) few hl (star_head h1) rfl).run pins s σ H Q I ⟨Mu, env, src, _, s1, J, e1, fun vx H1 E1 S1 R1 _ => ?_⟩
        have J1 := J.ext E1 S1
        obtain ⟨a, vs, rfl, ha, ra⟩ := R1.list
        refine ⟨.inl ⟨rfl, vs, SqL.of ha⟩, Mu, env, s1, _, _, J1, e3, fun vy H2 E2 S2 R2 _ => ?_⟩
        obtain ⟨a', vs', ea, ha2, ra2⟩ := (R1.ext E2 J1.swm J1.src).list
        cases ea
        obtain rfl := R2.int
        obtain ⟨rfl, _⟩ := ra2.ints hns
        exact ⟨a, ns, i, rfl, rfl, SqL.of ha2, k _ H2 (E1.trans E2) S2 (.inl (.int _)) fun z => by cases z⟩
      | _ => cases e5
    | _ => cases dy <;> cases e5

theorem call_lenset_go {a : Expr} {ta : TE} {p p2 q pos : Pos} (hc : X.calm = true) (hg : Gl X "len") (hm : X.mg "len" = none) (hg2 : Gl X "set") (hm2 : X.mg "set" = none) (ha : PE X a ta)
    (na : starEach [a] X.env = (false, eval a X.env) :: starEach [] X.env) : PE X (.Call (.Name "len" p) [.Call (.Name "set" p2) [a] [] q] [] pos)
      (fun σ H Q => ta σ H fun x H1 => ∃ (l : Addr) (ns : List Int), x = .ref l ∧ SqL X.K H1 l (ns.map V.int) ∧ ns.length ≤ 4000 ∧ Q (.int ((firstMet (fun i => ns.getD i 0) ns.length).length : Nat)) H1) := by
  refine ⟨fun pins s σ H Q I h => ?_⟩
  refine Call_ (ld_blt I hg hm boot_len ?_)
  refine PyProof.Rows.callWith_builtin1 (PyProof.Rows.args_cons ?_ rfl) rfl rfl
  refine Call_ (ld_blt I hg2 hm2 boot_set ?_)
  refine PyProof.Rows.callWith_type1 (PyProof.Rows.args_cons (thn (ha.run pins s σ H _ I h) fun v s1 ⟨x, H1, I1, r1, q1⟩ => PyProof.Rows.args_nil ?_) na) na rfl
  obtain ⟨l, ns, rfl, hq, hl, q1⟩ := q1
  cases r1
  obtain ⟨its, r, pl, hz⟩ := I1.list hq
  have hlen : its.toArray.size = ns.length := by rw [List.size_toArray, ← r.length, List.length_map]
  refine call_set_list (I1.ok.hd hc) pl.isList (ns := ns) (by simpa using r.ints) (by rw [hlen]; unfold scanBound; omega) fun h' tk hS hk => ?_
  refine PyProof.Rows.args_nil ?_
  rw [hlen] at hS
  obtain ⟨o, es, ep, t, ho, hex, hd, _, _, _, hf, hn⟩ := hS
  have I2 : Inv X pins σ H1 { s1 with heap := h', toks := tk } := I1.kept fun b o e => hk b o (Heap.lt_size e) e
  have := firstMet_length_le (fun i => ns.getD i 0) ns.length
  exact call_len_set ho hex hd hf (by rw [hn] <;> omega) ⟨.int _, H1, I2.tok _, ⟨_, by rw [hn]⟩, q1⟩
theorem e_nset {b : Bool} {x : E} {a : Expr} {p p2 q pos : Pos} (O : XOk call fs N X) (hg : X.env.scope.names.lookup (sN "len") = some .globalImplicit) (hg2 : X.env.scope.names.lookup (sN "set") = some .globalImplicit) (hst : starredB a = false) (hx : PE X a (tE sw call true x)) :
    PE X (.Call (.Name (sN "len") p) [.Call (.Name (sN "set") p2) [a] [] q] [] pos) (tE sw call b (.nset x)) := by
  refine pe_imp (call_lenset_go (hc := O.calm) hg (O.kit "len" (by decide)) hg2 (O.kit "set" (by decide)) hx (star_head hst)) fun σ H Q ⟨Mu, env, src, d', src', J, e, k⟩ => ?_
  obtain ⟨dx, s1, e1, e2⟩ := bnd_some (show bnd (ev call true x env) _ src = _ from e)
  obtain ⟨e5, hes⟩ := lft_some e2
  subst hes
  cases dx with
  | list xs =>
    obtain ⟨ns, hns, e6⟩ := Option.bind_eq_some_iff.mp (show (asInts xs).bind _ = some d' from e5)
    split at e6
    · rename_i hl
      obtain rfl := Option.some.inj e6
      refine ⟨Mu, env, src, _, _, J, e1, fun vx H1 E1 S1 R1 _ => ?_⟩
      obtain ⟨a', vs', rfl, ha2, ra2⟩ := R1.list
      obtain ⟨rfl, _⟩ := ra2.ints hns
      exact ⟨a', ns, rfl, SqL.of ha2, hl, k _ H1 E1 S1 (.inl (.int _)) fun z => by cases z⟩
    · cases e6
  | _ => cases e5
theorem ints_getD : ∀ {us : List Value} {ns : List Int}, Vals (ns.map V.int) us → ∀ (i : Nat) (v : Value), us[i]? = some v → ∃ t, v = Value.int (ns.getD i 0) t
  | [], ns, h, i, v, e => by simp at e
  | u :: us, [], h, i, v, e => by
    have := Vals.zero h
    cases this
  | u :: us, n :: ns, h, i, v, e => by
    obtain ⟨w, ws, e1, h1, h2⟩ := Vals.cons_inv h
    cases e1
    cases i with
    | zero =>
      have e2 : u = v := by simpa using e
      subst e2
      obtain ⟨t, e3⟩ := h1
      exact ⟨t, e3⟩
    | succ i => exact ints_getD h2 i v (by simpa using e)
theorem pe_minvR {o : Expr} {p pos apos mpos : Pos} {td : TE} {Mu : Addr → Prop} (hc : X.calm = true) (hg : Gl X "min") (hm : X.mg "min" = none) (hd : PE X o td) (hbase : attributeBase o "values" X.env (eval o X.env) = eval o X.env) (hline : (apos.endLine == mpos.line) = true) :
    PE X (.Call (.Name "min" p) [.Call (.Attribute o "values" apos) [] [] mpos] [] pos)
      (fun σ H Q => td σ H fun x H1 => ∃ Mu kvs is, RepB true sw Mu H1 x (.dict kvs) ∧ asInts (kvs.map (·.2)) = some is ∧ is ≠ [] ∧ ∀ m, m ∈ is → (∀ j ∈ is, m ≤ j) → Q (.int m) H1) := by
  refine ⟨fun pins s σ H Q I h => ?_⟩
  refine wpAny_Call_Name_kw (ld_blt I hg hm (u := .builtin "min") (by first | rfl | decide +kernel) ?_ (by first | decide +kernel | decide) (by first | decide +kernel | decide))
  have hse : starEach [Expr.Call (.Attribute o "values" apos) [] [] mpos] X.env = [(false, eval (Expr.Call (.Attribute o "values" apos) [] [] mpos) X.env)] := rfl
  rw [hse]
  refine PySem.callWith_builtin1 (wpAny_Call_method0_late hbase hline (thn (hd.run pins s σ H _ I h) fun v s1 ⟨x, H1, I1, r1, Mu, kvs, is, hr, hv, hne, q⟩ => ?_))
  obtain ⟨a, ob, es, ep, rfl, ho, ex, hdat, hsys, _, hsz0, ks, ws, _, e2, _, e4⟩ := dict_entries I1 hr
  obtain rfl : v = Value.ref a := r1
  have raw : s1.heap.DictRaw a es ep := ⟨ob, ho, ex, hdat⟩
  obtain ⟨rfl, _⟩ := e4.ints hv
  refine ⟨"dict", "dict.values", F.plainAttrs_dict, F.slot_dict_values, F.type_dict_values, ⟨ob, ho, ex.1⟩, fun b e => ?_, Calls.callWith_builtin rfl (PySem.evalArgs_none ?_)⟩
  · cases e
    exact ⟨ob, ho, ex.2.1⟩
  refine call_meetsIn F.slot_dict_values ⟨ob, ho, ex.1⟩ F.entry_dict_values (F.args_dict_values_1 _) (meets_dict_values_raw a hsys) ⟨⟨es, ep, raw⟩, ?_⟩
  have k1 : ∀ b u, s1.heap.get? b = some u → (s1.heap.push { cls := .type "dict_values", data := .fields #[.ref a] }).get? b = some u := fun b u e => Heap.get?_push_of_some _ e
  have raw1 : (s1.heap.push { cls := .type "dict_values", data := .fields #[.ref a] }).DictRaw a es ep := ⟨ob, k1 _ _ ho, ex, hdat⟩
  have hlv : es.size = is.length := by
    have := e2.length
    rw [List.length_map, List.length_map, Array.length_toList] at this
    exact this.symm
  have hlen : 0 < es.size := by
    rw [hlv]
    exact List.length_pos_iff.mpr hne
  have hval : ∀ (i : Nat) (v : Value), (∃ hi : i < es.size, v = es[i].val) → ∃ t, v = Value.int (is.getD i 0) t := fun i v ⟨hi, e⟩ => by
    refine ints_getD e2 i v ?_
    rw [List.getElem?_map, Array.getElem?_toList, Array.getElem?_eq_getElem hi, e]
    rfl
  refine call_min_walk (wpAny_pyIter_values_raw (v := s1.heap.objs.size) (d := a) ⟨_, Heap.get?_push_size _ rfl, rfl, rfl⟩ raw1 ?_)
  have hlt : a < s1.heap.objs.size := Heap.lt_size ho
  have hsz : (s1.heap.push { cls := .type "dict_values", data := .fields #[.ref a] }).objs.size = s1.heap.objs.size + 1 := Heap.size_push _ _
  refine ⟨_, _, _, _, _, _, _, rfl, Walks.rawValues (A := X.A.in1) (I.ok.hd hc) (s1.heap.push { cls := .type "dict_values", data := .fields #[.ref a] }).objs.size a (by rw [hsz]; exact Nat.ne_of_lt (Nat.lt_succ_of_lt hlt)) es ep,
    ⟨⟨_, Heap.get?_push_size _ rfl, rfl, rfl⟩, ⟨ob, Heap.get?_push_of_some _ (k1 _ _ ho), ex, hdat⟩⟩, fun b hb => ?_, hlen, CmpOf.ints_lt (fun i => is.getD i 0) hval, fun v h' tk hP hk => ?_⟩
  · show b < ((s1.heap.push _).push _).objs.size
    rw [Heap.size_push, Heap.size_push]
    rw [hsz] at hb
    rcases List.mem_cons.mp hb with e | hb
    · rw [e]
      exact Nat.lt_succ_self _
    · have e : b = a := List.mem_singleton.mp hb
      rw [e]
      exact Nat.lt_succ_of_lt (Nat.lt_succ_of_lt hlt)
  · obtain ⟨t, rfl⟩ := hval _ v hP
    obtain ⟨b1, b2⟩ := argBest_lt (fun i => is.getD i 0) (es.size - 1)
    refine ⟨.int _, H1, I1.kept (t' := tk) fun b u e => hk b u (fun hmem => ?_) (Heap.get?_push_of_some _ (k1 b u e)), ⟨t, rfl⟩, q _ ?_ fun j hj => ?_⟩
    · have e1 : b = (s1.heap.push { cls := .type "dict_values", data := .fields #[.ref a] }).objs.size := List.mem_singleton.mp hmem
      have e2 := Heap.lt_size e
      rw [hsz] at e1
      rw [e1] at e2
      exact absurd e2 (Nat.not_lt.mpr (Nat.le_succ _))
    · have hb : argBest (fun i j => decide (is.getD i 0 < is.getD j 0)) (es.size - 1) < is.length := by omega
      rw [List.getD_eq_getElem?_getD, List.getElem?_eq_getElem hb]
      exact List.getElem_mem hb
    · obtain ⟨i, hi, e⟩ := List.mem_iff_getElem.mp hj
      have e2 : is.getD i 0 = j := by rw [List.getD_eq_getElem?_getD, List.getElem?_eq_getElem hi, ← e] <;> rfl
      rw [← e2]
      exact b2 i (by omega)
theorem e_minv {b : Bool} {x : E} {l : Expr} {p pos apos mpos : Pos} (O : XOk call fs N X) (hg : X.env.scope.names.lookup (sN "min") = some .globalImplicit) (hb : callNoBase l = true) (hl : (apos.endLine == mpos.line) = true) (hx : PE X l (tE sw call true x)) :
    PE X (.Call (.Name (sN "min") p) [.Call (.Attribute l (sN "values") apos) [] [] mpos] [] pos) (tE sw call b (.minv x)) := by
  refine pe_imp (pe_minvR (sw := sw) (Mu := fun _ => False) (hc := O.calm) hg (O.kit "min" (by decide)) hx (base_of hb) hl) fun σ H Q ⟨Mu, env, src, d', src', J, e, k⟩ => ?_
  obtain ⟨dx, s1, e1, e2⟩ := bnd_some (show bnd (ev call true x env) _ src = _ from e)
  obtain ⟨e5, hes⟩ := lft_some e2
  subst hes
  cases dx with
  | dict kvs =>
    obtain ⟨m, e6, rfl⟩ := Option.map_eq_some_iff.mp (show ((asInts (kvs.map (·.2))).bind minI).map PyData.int = some d' from e5)
    obtain ⟨is, hns, e7⟩ := Option.bind_eq_some_iff.mp e6
    refine ⟨Mu, env, src, _, _, J, e1, fun vx H1 E1 S1 R1 _ => ⟨_, kvs, is, R1, hns, fun h => ?_, fun m' h1 h2 => ?_⟩⟩
    · subst h
      cases e7
    · rw [minI_spec e7 m' h1 h2]
      exact k _ H1 E1 S1 (.inl (.int _)) fun z => by cases z
  | _ => cases e5
end
end Mp

set_option maxHeartbeats 4000000
/-! L3g: targets; what is walked. -/
namespace Mp
open PySem L2 PyProof.Rows PySem.W

theorem JE.set {sw : Sw} {Mu : Addr → Prop} {env : Ev} {σ : L2.St} {H : Hp} {s : Src} (J : JE sw Mu env σ H s) (i : Nat) (hi : i < σ.length) {v : V} {d : D} (r : Rep Mu H v d) : JE sw Mu (env.set i (.frz d)) (σ.set i (some v)) H s := by
  refine ⟨by rw [List.length_set, List.length_set]; exact J.len, J.src, J.swm, J.dom, fun j sl h => ?_⟩
  by_cases e : i = j
  · subst e
    rw [List.getElem?_set_self (by rw [J.len]; exact hi)] at h
    obtain rfl := Option.some.inj h
    exact ⟨v, List.getElem?_set_self hi, r⟩
  · rw [List.getElem?_set_ne e] at h
    rw [List.getElem?_set_ne e]
    exact J.slot j sl h

/-- what a target's reading asks -/
def tT (sw : Sw) (t : T) : TG := fun v σ H Q => ∃ (Mu : Addr → Prop) (env : Ev) (src : Src) (d : D) (env' : Ev), Rep Mu H v d ∧ JE sw Mu env σ H src ∧ bindT t d env = some env' ∧
  ∀ σ', JE sw Mu env' σ' H src → σ'.length = σ.length → (∀ j, j ∉ namesT t → σ'[j]? = σ[j]?) → Q σ' H
def tTs (sw : Sw) (ts : List T) : TGs := fun vs σ H Q => ∃ (Mu : Addr → Prop) (env : Ev) (src : Src) (ds : List D) (env' : Ev), RepAll Mu H vs ds ∧ JE sw Mu env σ H src ∧ bindTs ts ds env = some env' ∧
  ∀ σ', JE sw Mu env' σ' H src → σ'.length = σ.length → (∀ j, j ∉ namesTs ts → σ'[j]? = σ[j]?) → Q σ' H

theorem assign_head {e : Expr} {es : List Expr} {env : Env} (h : starredB e = false) : assignEach (e :: es) env = (false, assign e env) :: assignEach es env := by
  cases e <;> first | rfl | cases h
theorem assign_none {N : List Str} {sc : Scope} {fn : Str → Bool} {env : Env} : ∀ {ts : List T} {es : List Expr}, chkTs N sc fn ts es = true → (assignEach es env).findIdx? (·.1) = none ∧ (assignEach es env).length = ts.length ∧ es.length = ts.length
  | [], [], _ => ⟨rfl, rfl, rfl⟩
  | t :: ts, e :: es, h => by
    unfold chkTs at h
    simp only [Bool.and_eq_true, Bool.not_eq_true'] at h
    obtain ⟨h1, h2, h3⟩ := assign_none (env := env) h.2
    rw [assign_head h.1.2]
    refine ⟨?_, by rw [List.length_cons, List.length_cons, h2], by rw [List.length_cons, List.length_cons, h3]⟩
    rw [List.findIdx?_cons, h1]
    rfl
  | [], _ :: _, h => by cases h
  | _ :: _, [], h => by cases h
theorem bindTs_len : ∀ {ts : List T} {ds : List D} {env env' : Ev}, bindTs ts ds env = some env' → ts.length = ds.length
  | [], [], _, _, _ => rfl
  | t :: ts, d :: ds, env, env', h => by
    unfold bindTs at h
    obtain ⟨e1, _, h2⟩ := Option.bind_eq_some_iff.mp h
    rw [List.length_cons, List.length_cons, bindTs_len h2]
  | [], _ :: _, _, _, h => by cases h
  | _ :: _, [], _, _, h => by cases h

section
variable {X : Cx} {sw : Sw} {N : List Str} {sc : Scope} {fn : Str → Bool}
mutual
theorem pg_t (hN : X.N = N) (nd : N.Nodup) (hc : X.calm = true) (hs : X.env.scope = sc) (hf : X.fn = fn) : ∀ (t : T) (a : Expr), chkT N sc fn t a = true → PG X a (tT sw t)
  | .name i, a, h => by
    unfold chkT at h
    split at h
    · rename_i x p
      simp only [Bool.and_eq_true, Bool.or_eq_true, decide_eq_true_eq] at h
      obtain ⟨⟨h1, h2⟩, h3⟩ := h
      subst hN hs hf
      have hl := loc_of h2
      have h3' : X.fn x = true ∨ X.env.scope.names.lookup x = some .local := h3.imp id fun h => by
        unfold lclB at h
        split at h
        · assumption
        · cases h
      refine ⟨fun pins s σ H v u Q I r ⟨Mu, env, src, d, env', R, J, e, k⟩ => (pg_name (i := i) nd h1 hl h3').run pins s σ H v u Q I r ?_⟩
      cases e
      have hi : i < σ.length := by rw [I.len]; exact (List.getElem?_eq_some_iff.mp h1).1
      refine k _ (J.set i hi R) (List.length_set ..) fun j hj => ?_
      rw [List.getElem?_set_ne]
      intro e
      exact hj (by rw [e]; exact .head _)
    · cases h
  | .tup ts, a, h => by
    unfold chkT at h
    split at h
    · rename_i es kk pos
      have q := pg_ts hN nd hc hs hf ts es h
      obtain ⟨a1, a2, a3⟩ := assign_none (env := X.env) h
      refine ⟨fun pins s σ H v u Q I r ⟨Mu, env, src, d, env', R, J, e, k⟩ => ?_⟩
      cases d with
      | tuple ds =>
        have e' : bindTs ts ds env = some env' := e
        cases R with
        | tup h1 h2 => exact (pg_tup hc q a2 a1).run pins s σ H _ u Q I r ⟨_, _, rfl, SqT.of h1, by rw [h2.length, bindTs_len e'], Mu, env, src, ds, env', h2, J, e', k⟩
      | list ds =>
        have e' : bindTs ts ds env = some env' := e
        cases R with
        | lst h0 h1 h2 => exact (pg_unl hc q a2 a1).run pins s σ H _ u Q I r ⟨_, _, rfl, SqL.of h1, by rw [h2.length, bindTs_len e'], Mu, env, src, ds, env', h2, J, e', k⟩
      | _ => cases e
    · cases h
theorem pg_ts (hN : X.N = N) (nd : N.Nodup) (hc : X.calm = true) (hs : X.env.scope = sc) (hf : X.fn = fn) : ∀ (ts : List T) (as : List Expr), chkTs N sc fn ts as = true → PGs X as (tTs sw ts)
  | [], [], _ => ⟨fun pins s σ H vs us Q I r ⟨Mu, env, src, ds, env', R, J, e, k⟩ => by
    cases ds with
    | nil =>
      cases R
      cases e
      exact pgs_nil.run pins s σ H [] us Q I r ⟨rfl, k σ J rfl fun _ _ => rfl⟩
    | cons _ _ => cases e⟩
  | t :: ts, a :: as, h => by
    have h' := h
    unfold chkTs at h'
    simp only [Bool.and_eq_true, Bool.not_eq_true'] at h'
    have q1 := pg_t hN nd hc hs hf t a h'.1.1
    have q2 := pg_ts hN nd hc hs hf ts as h'.2
    refine ⟨fun pins s σ H vs us Q I r ⟨Mu, env, src, ds, env', R, J, e, k⟩ => ?_⟩
    cases ds with
    | nil => cases e
    | cons d ds =>
      unfold bindTs at e
      obtain ⟨env1, e1, e2⟩ := Option.bind_eq_some_iff.mp e
      cases R with
      | cons R1 R2 =>
        refine (pgs_cons q1 q2 (by rw [assign_head h'.1.2]; rfl)).run pins s σ H _ us Q I r ⟨_, _, rfl, Mu, env, src, d, env1, R1, J, e1, fun σ1 J1 l1 n1 => ?_⟩
        refine ⟨Mu, env1, src, ds, env', R2, J1, e2, fun σ2 J2 l2 n2 => ?_⟩
        refine k σ2 J2 (l2.trans l1) fun j hj => ?_
        unfold namesTs at hj
        rw [List.mem_append, not_or] at hj
        rw [n2 j hj.2, n1 j hj.1]
  | [], _ :: _, h => by cases h
  | _ :: _, [], h => by cases h
end
end

/-! ### what is walked -/
def Fix (Mu : Addr → Prop) (H H' : Hp) : Prop := ∀ a u, H a = some u → (¬ Mu a ∨ ∃ xs, u = .tup xs) → H' a = some u
theorem Fix.keeps {Mu : Addr → Prop} {H H' : Hp} (f : Fix Mu H H') : Keeps Mu H Mu H' := by
  have rd : ∀ a u, ¬ Mu a → Rd H a u → ¬ Mu a ∧ Rd H' a u := fun a u h r => ⟨h, r.elim (fun r => .inl (f a _ r (.inl h))) fun ⟨o, r⟩ => .inr ⟨o, f a _ r (.inl h)⟩⟩
  exact ⟨fun a u h r => ⟨h, f a _ r (.inl h)⟩, fun a u h r => rd a _ h r, fun a u h r => rd a _ h r, fun a xs h => f a _ h (.inr ⟨xs, rfl⟩)⟩
theorem ExtS.fix {sw : Sw} {s : Src} {Mu : Addr → Prop} {H H' : Hp} (e : ExtS sw H H') (m : SwIn sw Mu) (o : SrcOk sw H s) : Fix Mu H H' := fun a u h c => by
  refine e a u h ?_
  rcases c with c | ⟨xs, rfl⟩
  · exact off_of m c
  · intro p hp
    refine ⟨fun q => ?_, fun q => ?_⟩
    · have := (o p hp).d
      rw [← q, h] at this; cases this
    · have := (o p hp).c
      rw [← q, h] at this; cases this
def Walks (b : Bool) (sw : Sw) (Mu : Addr → Prop) (H1 : Hp) (J : It) (ds : List D) : Prop :=
  ∀ (Mu' : Addr → Prop) (H' : Hp), Keeps Mu H1 Mu' H' → Fix Mu H1 H' → (b = true → ExtS sw H1 H') → ∀ i : Nat,
    (∀ d, ds[i]? = some d → J.go i H' ∧ ∀ x H'', J.yld i H' x H'' → Same H' H'' ∧ Rep Mu' H'' x d) ∧ (ds.length ≤ i → J.stop i H')

def Locked (it : I) (env : Ev) (σ : L2.St) (H : Hp) : Prop := ∀ i, lockVar it = some i → ∀ kvs, (env[i]? = some (.frz (.dict kvs)) ∨ env[i]? = some (.own (.dict kvs))) → ∃ a o u, σ[i]? = some (some (.ref a)) ∧ H a = some (.frz o u)
def tIt (sw : Sw) (call : Call) (b : Bool) (it : I) : TI := fun σ H R => ∃ (Mu : Addr → Prop) (env : Ev) (src : Src) (ds : List D) (src' : Src), JE sw Mu env σ H src ∧ evI call b it env src = some (ds, src') ∧ Locked it env σ H ∧
  ∀ J H1, ExtS sw H H1 → SrcOk sw H1 src' → Walks b sw Mu H1 J ds → R J H1

section
variable {b : Bool} {sw : Sw} {Mu : Addr → Prop} {H1 : Hp} {X : Cx}
/-- what stands at a read thing stays -/
theorem stays {a : Addr} {d : D} {u : HO} {H' : Hp} (r : RepB b sw Mu H1 (.ref a) d) (h : H1 a = some u) (hd : isSeqOrDict d = true) (f : Fix Mu H1 H') (e : b = true → ExtS sw H1 H') : H' a = some u := by
  rcases r with r | ⟨hb, a', ea, _, off, _⟩
  · cases r with
    | lst h1 _ _ => exact f _ _ h (.inl h1)
    | dK h1 _ _ => exact f _ _ h (.inl h1)
    | dT _ h1 _ _ => exact f _ _ h (.inl h1)
    | tup _ _ => cases hd
  · cases ea
    exact e hb _ _ h off
theorem walks_list {K : PySem.W.Frag} {a : Addr} {ds : List D} {xs : List V} (r : RepB b sw Mu H1 (.ref a) (.list ds)) (h : H1 a = some (.lst xs)) (hr : RepAll Mu H1 xs ds) : Walks b sw Mu H1 (Itl K a) ds := fun Mu' H' k f e i => by
  have h' := stays r h rfl f e
  refine ⟨fun d hd => ?_, fun hl => ⟨xs, SqL.of h', by rw [hr.length]; exact hl⟩⟩
  obtain ⟨v, hv, rv⟩ := hr.get hd
  refine ⟨⟨xs, v, SqL.of h', hv⟩, fun x H'' ⟨e1, y⟩ => ?_⟩
  subst e1
  obtain rfl := Option.some.inj ((y xs (SqL.of h')).symm.trans hv)
  exact ⟨Same.refl _, rv.keeps k⟩
theorem walks_tup {K : PySem.W.Frag} {a : Addr} {ds : List D} {xs : List V} (h : H1 a = some (.tup xs)) (hr : RepAll Mu H1 xs ds) : Walks b sw Mu H1 (Itt K a) ds := fun Mu' H' k f e i => by
  have h' := k.tup _ _ h
  refine ⟨fun d hd => ?_, fun hl => ⟨xs, SqT.of h', by rw [hr.length]; exact hl⟩⟩
  obtain ⟨v, hv, rv⟩ := hr.get hd
  refine ⟨⟨xs, v, SqT.of h', hv⟩, fun x H'' ⟨e1, y⟩ => ?_⟩
  subst e1
  obtain rfl := Option.some.inj ((y xs (SqT.of h')).symm.trans hv)
  exact ⟨Same.refl _, rv.keeps k⟩
theorem walks_range {lo : Int} {n : Nat} {ds : List D} (hl : ds.length = n) (hd : ∀ i, i < n → ds[i]? = some (.int (lo + i))) : Walks b sw Mu H1 (Itr lo n) ds := fun Mu' H' k f e i => by
  refine ⟨fun d h => ?_, fun h => by rw [← hl]; exact h⟩
  have hi : i < n := by rw [← hl]; exact (List.getElem?_eq_some_iff.mp h).1
  rw [hd i hi] at h
  obtain rfl := Option.some.inj h
  refine ⟨hi, fun x H'' ⟨e1, e2⟩ => ?_⟩
  subst e1 e2
  exact ⟨Same.refl _, .int _⟩
theorem walks_enum {K : PySem.W.Frag} {a : Addr} {ds : List D} {xs : List V} (r : RepB b sw Mu H1 (.ref a) (.list ds)) (h : H1 a = some (.lst xs)) (hr : RepAll Mu H1 xs ds) : Walks b sw Mu H1 (Ite K a) (enumFrom 0 ds) := fun Mu' H' k f e i => by
  have h' := stays r h rfl f e
  have get : ∀ (ds : List D) (n i : Nat), (enumFrom n ds)[i]? = (ds[i]?).map fun d => .tuple [.int ((n + i : Nat) : Int), d] := by
    intro ds
    induction ds with
    | nil => intro n i; simp [enumFrom]
    | cons d ds ih =>
      intro n i
      cases i with
      | zero => simp [enumFrom]
      | succ i =>
        rw [enumFrom, List.getElem?_cons_succ, List.getElem?_cons_succ, ih]
        congr 2
        funext d
        rw [show n + 1 + i = n + (i + 1) by omega]
  have len : (enumFrom 0 ds).length = ds.length := by
    have : ∀ (ds : List D) n, (enumFrom n ds).length = ds.length := by
      intro ds
      induction ds with
      | nil => intro n; rfl
      | cons d ds ih => intro n; rw [enumFrom, List.length_cons, List.length_cons, ih]
    exact this ds 0
  refine ⟨fun d hd => ?_, fun hl => ⟨xs, SqL.of h', by rw [hr.length, ← len]; exact hl⟩⟩
  rw [get, Nat.zero_add] at hd
  obtain ⟨d1, hd1, rfl⟩ := Option.map_eq_some_iff.mp hd
  obtain ⟨v, hv, rv⟩ := hr.get hd1
  refine ⟨⟨xs, v, SqL.of h', hv⟩, fun x H'' ⟨T, y, ex, hT, e1, q⟩ => ?_⟩
  subst ex e1
  obtain rfl := Option.some.inj ((q xs (SqL.of h')).symm.trans hv)
  exact ⟨same_new hT, .tup upd_same (.cons (.int _) (.cons (Same.rep (same_new hT) (rv.keeps k)) .nil))⟩
theorem repK_get {Mu : Addr → Prop} {H : Hp} : ∀ {ks : List (Key × V)} {ds : List (D × D)} {i : Nat} {p : D × D}, RepK Mu H ks ds → ds[i]? = some p → ∃ k v, ks[i]? = some (k, v) ∧ p.1 = keyD k ∧ Rep Mu H v p.2
  | _, _, _, _, .nil, e => by simp at e
  | _, _, 0, _, .cons h _, e => by simp at e; subst e; exact ⟨_, _, rfl, rfl, h⟩
  | _, _, i + 1, _, .cons _ t, e => by
    obtain ⟨k, v, h1, h2, h3⟩ := repK_get (i := i) t (by simpa using e)
    exact ⟨k, v, by simpa using h1, h2, h3⟩
theorem repT_get {Mu : Addr → Prop} {H : Hp} : ∀ {ks : List (List Key × V)} {ds : List (D × D)} {i : Nat} {p : D × D}, RepT Mu H ks ds → ds[i]? = some p → ∃ k v, ks[i]? = some (k, v) ∧ p.1 = tkeyD k ∧ Rep Mu H v p.2
  | _, _, _, _, .nil, e => by simp at e
  | _, _, 0, _, .cons h _, e => by simp at e; subst e; exact ⟨_, _, rfl, rfl, h⟩
  | _, _, i + 1, _, .cons _ t, e => by
    obtain ⟨k, v, h1, h2, h3⟩ := repT_get (i := i) t (by simpa using e)
    exact ⟨k, v, by simpa using h1, h2, h3⟩
theorem walks_keys {a : Addr} {o : Obj} {ds : List (D × D)} {ks : List (Key × V)} (r : RepB b sw Mu H1 (.ref a) (.dict ds)) (h : H1 a = some (.frz o (.dK ks))) (hr : RepK Mu H1 ks ds) : Walks b sw Mu H1 (Itk a o ks) (ds.map (·.1)) := fun Mu' H' k f e i => by
  have h' := stays r h rfl f e
  refine ⟨fun d hd => ?_, fun hl => ⟨h', by rw [hr.length]; simpa using hl⟩⟩
  rw [List.getElem?_map] at hd
  obtain ⟨p, hp, rfl⟩ := Option.map_eq_some_iff.mp hd
  obtain ⟨c, v, h1, h2, h3⟩ := repK_get hr hp
  refine ⟨⟨h', (List.getElem?_eq_some_iff.mp h1).1⟩, fun x H'' ⟨e1, c2, v2, e2, e3⟩ => ?_⟩
  rw [h1] at e2
  cases e2
  subst e1 e3
  rw [h2]
  exact ⟨Same.refl _, rep_kV c⟩
theorem walks_keysT {a : Addr} {o : Obj} {ds : List (D × D)} {ks : List (List Key × V)} (r : RepB b sw Mu H1 (.ref a) (.dict ds)) (h : H1 a = some (.frz o (.dT ks))) (hr : RepT Mu H1 ks ds) : Walks b sw Mu H1 (Itkt a o ks) (ds.map (·.1)) := fun Mu' H' k f e i => by
  have h' := stays r h rfl f e
  refine ⟨fun d hd => ?_, fun hl => ⟨h', by rw [hr.length]; simpa using hl⟩⟩
  rw [List.getElem?_map] at hd
  obtain ⟨p, hp, rfl⟩ := Option.map_eq_some_iff.mp hd
  obtain ⟨c, v, h1, h2, h3⟩ := repT_get hr hp
  refine ⟨⟨h', (List.getElem?_eq_some_iff.mp h1).1⟩, fun x H'' ⟨e1, c2, v2, q, e2, e3, e4⟩ => ?_⟩
  rw [h1] at e2
  cases e2
  subst e1 e3
  rw [h2]
  exact ⟨Same.refl _, rep_key e4⟩
theorem walks_vals {a : Addr} {o : Obj} {ds : List (D × D)} {ks : List (Key × V)} (r : RepB b sw Mu H1 (.ref a) (.dict ds)) (h : H1 a = some (.frz o (.dK ks))) (hr : RepK Mu H1 ks ds) : Walks b sw Mu H1 (Itd a o ks) (ds.map (·.2)) := fun Mu' H' k f e i => by
  have h' := stays r h rfl f e
  refine ⟨fun d hd => ?_, fun hl => ⟨h', by rw [hr.length]; simpa using hl⟩⟩
  rw [List.getElem?_map] at hd
  obtain ⟨p, hp, rfl⟩ := Option.map_eq_some_iff.mp hd
  obtain ⟨c, v, h1, h2, h3⟩ := repK_get hr hp
  refine ⟨⟨h', (List.getElem?_eq_some_iff.mp h1).1⟩, fun x H'' ⟨e1, c2, e2⟩ => ?_⟩
  rw [h1] at e2
  cases e2
  subst e1
  exact ⟨Same.refl _, h3.keeps k⟩
theorem walks_items {a : Addr} {o : Obj} {ds : List (D × D)} {ks : List (Key × V)} (r : RepB b sw Mu H1 (.ref a) (.dict ds)) (h : H1 a = some (.frz o (.dK ks))) (hr : RepK Mu H1 ks ds) : Walks b sw Mu H1 (Iti a o ks) (ds.map fun p => .tuple [p.1, p.2]) := fun Mu' H' k f e i => by
  have h' := stays r h rfl f e
  refine ⟨fun d hd => ?_, fun hl => ⟨h', by rw [hr.length]; simpa using hl⟩⟩
  rw [List.getElem?_map] at hd
  obtain ⟨p, hp, rfl⟩ := Option.map_eq_some_iff.mp hd
  obtain ⟨c, v, h1, h2, h3⟩ := repK_get hr hp
  refine ⟨⟨h', (List.getElem?_eq_some_iff.mp h1).1⟩, fun x H'' ⟨T, c2, v2, e2, ex, hT, e1⟩ => ?_⟩
  rw [h1] at e2
  cases e2
  subst ex e1
  rw [h2]
  exact ⟨same_new hT, .tup upd_same (.cons (rep_kV c) (.cons (Same.rep (same_new hT) (h3.keeps k)) .nil))⟩
end
end Mp

set_option maxHeartbeats 4000000
/-! L3h: loops' iterables; comprehensions. -/
namespace Mp
open PySem L2 PyProof.Rows PySem.W

section
variable {b : Bool} {sw : Sw} {Mu : Addr → Prop} {H : Hp} {X : Cx} {call : Call} {fs : List String} {N : List Str}
theorem slot_read {env : Ev} {σ : L2.St} {src : Src} {i : Nat} {d : D} (J : JE sw Mu env σ H src) (e : rdSlot b env i = some d) : ∃ v, σ[i]? = some (some v) ∧ RepB b sw Mu H v d ∧ (env[i]? = some (.frz d) ∨ env[i]? = some (.own d)) := by
  unfold rdSlot at e
  split at e
  · rename_i d' hs
    obtain rfl := Option.some.inj e
    obtain ⟨v, h1, h2⟩ := J.slot i _ hs
    exact ⟨v, h1, .inl h2, .inl hs⟩
  · rename_i d' hs
    split at e
    · rename_i hb
      obtain rfl := Option.some.inj e
      obtain ⟨v, h1, h2, h3, h4⟩ := J.slot i _ hs
      exact ⟨_, h1, .inr ⟨hb, v, rfl, h2, h3, h4⟩, .inr hs⟩
    · cases e
  · cases e
theorem dict_locked {a : Addr} {o : Obj} {u : HO} {kvs : List (D × D)} (r : RepB b sw Mu H (.ref a) (.dict kvs)) (h : H a = some (.frz o u)) :
    (∃ ks, H a = some (.frz o (.dK ks)) ∧ RepK Mu H ks kvs) ∨ (kvs ≠ [] ∧ ∃ ks, H a = some (.frz o (.dT ks)) ∧ RepT Mu H ks kvs) := by
  obtain ⟨a', ea, hh⟩ := r.dictN
  cases ea
  rcases hh with ⟨ks, rd, rk⟩ | ⟨ne, ks, rd, rk⟩
  · rcases rd with rd | ⟨o', rd⟩
    · rw [h] at rd; cases rd
    · rw [h] at rd; cases rd
      exact .inl ⟨ks, h, rk⟩
  · rcases rd with rd | ⟨o', rd⟩
    · rw [h] at rd; cases rd
    · rw [h] at rd; cases rd
      exact .inr ⟨ne, ks, h, rk⟩

theorem i_over {tg a : Expr} {e : E} (O : XOk call fs N X) (h : PE X a (tE sw call b e)) (hv : ∀ i, e = .var i → slotIs N X.env.scope i a = true) : PI X tg a (tIt sw call b (.over e)) := by
  refine ⟨fun pins s σ H R I ⟨Mu, env, src, ds, src', J, ev1, lk, k⟩ => ?_⟩
  obtain ⟨d, s1, e1, e2⟩ := bnd_some (show bnd (ev call b e env) _ src = _ from ev1)
  cases d with
  | list xs =>
    obtain ⟨e3, hes⟩ := lft_some (show lft (seqD (.list xs)) s1 = _ from e2)
    subst hes
    cases e3
    refine (pi_list h).run pins s σ H R I ⟨Mu, env, src, _, _, J, e1, fun v H1 E1 S1 R1 _ => ?_⟩
    obtain ⟨a, vs, rfl, ha, ra⟩ := R1.list
    exact ⟨a, rfl, ⟨vs, SqL.of ha⟩, k _ H1 E1 S1 (walks_list R1 ha ra)⟩
  | tuple xs =>
    obtain ⟨e3, hes⟩ := lft_some (show lft (seqD (.tuple xs)) s1 = _ from e2)
    subst hes
    cases e3
    refine (pi_tup h).run pins s σ H R I ⟨Mu, env, src, _, _, J, e1, fun v H1 E1 S1 R1 _ => ?_⟩
    obtain ⟨a, vs, rfl, ha, ra⟩ := R1.tuple
    exact ⟨a, rfl, ⟨vs, SqT.of ha⟩, k _ H1 E1 S1 (walks_tup ha ra)⟩
  | dict kvs =>
    have e2' : (if isVar e = true then ret (kvs.map (·.1)) else stuck) s1 = some (ds, src') := e2
    split at e2'
    · rename_i hvar
      obtain ⟨rfl, rfl⟩ := ret_some e2'
      cases e with
      | var i =>
        obtain ⟨x, p, rfl, x1, x2, x3, x4⟩ := slotIs_of (hv i rfl)
        have hN := O.names
        subst hN
        obtain ⟨e4, hes⟩ := lft_some (show lft (rdSlot b env i) src = _ from e1)
        subst hes
        obtain ⟨v, hσ, R1, hsl⟩ := slot_read J e4
        obtain ⟨a, o, u, hσ', ha⟩ := lk i rfl kvs hsl
        rw [hσ] at hσ'
        cases hσ'
        refine (pi_keys (pe_var (pos := p) (i := i) x1 x2 x3 x4)).run pins s σ H R I ⟨.ref a, hσ, a, o, rfl, ?_⟩
        rcases dict_locked R1 ha with ⟨ks, h1, h2⟩ | ⟨_, ks, h1, h2⟩
        · exact .inl ⟨ks, h1, k _ H (ExtS.refl sw H) J.src (walks_keys R1 h1 h2)⟩
        · exact .inr ⟨ks, h1, k _ H (ExtS.refl sw H) J.src (walks_keysT R1 h1 h2)⟩
      | _ => cases hvar
    · exact (stuck_some e2').elim
  | _ => cases (lft_some (show lft none s1 = some (ds, src') from e2)).1

theorem notT_K {Mu : Addr → Prop} {H : Hp} {ks : List (List Key × V)} {kvs : List (D × D)} (r : RepT Mu H ks kvs) (ne : kvs ≠ []) (h : (kvs.all fun p => !isTupKey p.1) = true) : False := by
  cases r with
  | nil => exact ne rfl
  | cons hv t => simp [isTupKey, tkeyD] at h

theorem i_items {l : Expr} {p q : Pos} {i : Nat} {elts : List Expr} {kk : Nat} {tpos : Pos} (O : XOk call fs N X) (hs : slotIs N X.env.scope i l = true) (hl : (p.endLine == q.line) = true) : PI X (.Tuple elts kk tpos) (.Call (.Attribute l "items" p) [] [] q) (tIt sw call b (.items i)) := by
  refine ⟨fun pins s σ H R I ⟨Mu, env, src, ds, src', J, ev1, lk, k⟩ => ?_⟩
  obtain ⟨d, s1, e1, e2⟩ := bnd_some (show bnd (lft (rdSlot b env i)) _ src = _ from ev1)
  obtain ⟨e4, hes⟩ := lft_some e1
  subst hes
  obtain ⟨x, px, rfl, x1, x2, x3, x4⟩ := slotIs_of hs
  have hN := O.names
  subst hN
  cases d with
  | dict kvs =>
    have e2' : (if (kvs.all fun p => !isTupKey p.1) = true then ret (kvs.map fun p => PyData.tuple [p.1, p.2]) else stuck) s1 = some (ds, src') := e2
    split at e2'
    · rename_i hk
      obtain ⟨rfl, rfl⟩ := ret_some e2'
      obtain ⟨v, hσ, R1, hsl⟩ := slot_read J e4
      obtain ⟨a, o, u, hσ', ha⟩ := lk i rfl kvs hsl
      rw [hσ] at hσ'
      cases hσ'
      rcases dict_locked R1 ha with ⟨ks, h1, h2⟩ | ⟨ne, ks, h1, h2⟩
      · exact (pi_items (pe_var (pos := px) (i := i) x1 x2 x3 x4) (base_of rfl) hl).run pins s σ H R I ⟨.ref a, hσ, a, o, ks, rfl, h1, k _ H (ExtS.refl sw H) J.src (walks_items R1 h1 h2)⟩
      · exact (notT_K h2 ne hk).elim
    · exact (stuck_some e2').elim
  | _ => exact (stuck_some e2).elim
theorem i_values {tg l : Expr} {p q : Pos} {i : Nat} (O : XOk call fs N X) (hs : slotIs N X.env.scope i l = true) (hl : (p.endLine == q.line) = true) : PI X tg (.Call (.Attribute l "values" p) [] [] q) (tIt sw call b (.values i)) := by
  refine ⟨fun pins s σ H R I ⟨Mu, env, src, ds, src', J, ev1, lk, k⟩ => ?_⟩
  obtain ⟨d, s1, e1, e2⟩ := bnd_some (show bnd (lft (rdSlot b env i)) _ src = _ from ev1)
  obtain ⟨e4, hes⟩ := lft_some e1
  subst hes
  obtain ⟨x, px, rfl, x1, x2, x3, x4⟩ := slotIs_of hs
  have hN := O.names
  subst hN
  cases d with
  | dict kvs =>
    have e2' : (if (kvs.all fun p => !isTupKey p.1) = true then ret (kvs.map (·.2)) else stuck) s1 = some (ds, src') := e2
    split at e2'
    · rename_i hk
      obtain ⟨rfl, rfl⟩ := ret_some e2'
      obtain ⟨v, hσ, R1, hsl⟩ := slot_read J e4
      obtain ⟨a, o, u, hσ', ha⟩ := lk i rfl kvs hsl
      rw [hσ] at hσ'
      cases hσ'
      rcases dict_locked R1 ha with ⟨ks, h1, h2⟩ | ⟨ne, ks, h1, h2⟩
      · exact (pi_values (pe_var (pos := px) (i := i) x1 x2 x3 x4) (base_of rfl) hl).run pins s σ H R I ⟨.ref a, hσ, a, o, ks, rfl, h1, k _ H (ExtS.refl sw H) J.src (walks_vals R1 h1 h2)⟩
      · exact (notT_K h2 ne hk).elim
    · exact (stuck_some e2').elim
  | _ => exact (stuck_some e2).elim

theorem rangeOk_of {i : Int} (h : rangeOk i = true) : -(2 ^ 62) ≤ i ∧ i < 2 ^ 62 := of_decide_eq_true h
theorem rangeD_get (lo hi : Int) : (rangeD lo hi).length = (hi - lo).toNat ∧ ∀ i, i < (hi - lo).toNat → (rangeD lo hi)[i]? = some (.int (lo + i)) := by
  unfold rangeD
  refine ⟨by simp, fun i h => ?_⟩
  rw [List.getElem?_map, List.getElem?_range h]
  rfl
theorem i_range1 {tg f l : Expr} {x : E} {pos : Pos} (O : XOk call fs N X) (hf : nameIs X.env.scope "range" f = true) (hs : starredB l = false) (hx : PE X l (tE sw call false x)) : PI X tg (.Call f [l] [] pos) (tIt sw call b (.range1 x)) := by
  obtain ⟨pf, rfl, gf⟩ := nameIs_of hf
  refine ⟨fun pins s σ H R I ⟨Mu, env, src, ds, src', J, ev1, lk, k⟩ => ?_⟩
  obtain ⟨d, s1, e1, e2⟩ := bnd_some (show bnd (ev call false x env) _ src = _ from ev1)
  cases d with
  | int i =>
    have e2' : (if rangeOk i = true then ret (rangeD 0 i) else stuck) s1 = some (ds, src') := e2
    split at e2'
    · rename_i hr
      obtain ⟨rfl, rfl⟩ := ret_some e2'
      refine (pi_range1 (p := pf) (pos := pos) gf (O.kit "range" (by decide)) (pa_cons hx pa_nil (star_head hs)) (star_head hs)).run pins s σ H R I ⟨Mu, env, src, _, _, J, e1, fun v H1 E1 S1 R1 _ => ?_⟩
      obtain rfl := R1.int
      obtain ⟨r1, r2⟩ := rangeOk_of hr
      obtain ⟨g1, g2⟩ := rangeD_get 0 i
      rw [Int.sub_zero] at g1 g2
      exact ⟨i, rfl, r1, r2, k _ H1 E1 S1 (walks_range g1 g2)⟩
    · exact (stuck_some e2').elim
  | _ => exact (stuck_some e2).elim
theorem i_range2 {tg f l r : Expr} {x y : E} {pos : Pos} (O : XOk call fs N X) (hf : nameIs X.env.scope "range" f = true) (hs : starredB l = false) (ht : starredB r = false) (hx : PE X l (tE sw call false x)) (hy : PE X r (tE sw call false y)) : PI X tg (.Call f [l, r] [] pos) (tIt sw call b (.range2 x y)) := by
  obtain ⟨pf, rfl, gf⟩ := nameIs_of hf
  refine ⟨fun pins s σ H R I ⟨Mu, env, src, ds, src', J, ev1, lk, k⟩ => ?_⟩
  obtain ⟨d, s1, e1, e2⟩ := bnd_some (show bnd (ev call false x env) _ src = _ from ev1)
  obtain ⟨d', s2, e3, e4⟩ := bnd_some e2
  cases d with
  | int i =>
    cases d' with
    | int j =>
      have e4' : (if (rangeOk i && rangeOk j) = true then ret (rangeD i j) else stuck) s2 = some (ds, src') := e4
      split at e4'
      · rename_i hr
        rw [Bool.and_eq_true] at hr
        obtain ⟨rfl, rfl⟩ := ret_some e4'
        refine (pi_range2 (p := pf) (pos := pos) gf (O.kit "range" (by decide)) (pa_cons hx (pa_cons hy pa_nil (star_head ht)) (star_head hs)) (by rw [star_head hs, star_head ht]; rfl) (star_head ht)).run pins s σ H R I ⟨Mu, env, src, _, _, J, e1, fun v H1 E1 S1 R1 _ => ?_⟩
        have J1 := J.ext E1 S1
        refine ⟨Mu, env, s1, _, _, J1, e3, fun v2 H2 E2 S2 R2 _ => ?_⟩
        obtain rfl := R1.int
        obtain rfl := R2.int
        obtain ⟨r1, r2⟩ := rangeOk_of hr.1
        obtain ⟨r3, r4⟩ := rangeOk_of hr.2
        obtain ⟨g1, g2⟩ := rangeD_get i j
        exact ⟨i, j, rfl, ⟨r1, r2, r3, r4⟩, k _ H2 (E1.trans E2) S2 (walks_range g1 g2)⟩
      · exact (stuck_some e4').elim
    | _ => exact (stuck_some e4).elim
  | _ => exact (stuck_some e4).elim
theorem zipD_get : ∀ (xs ys : List D) (i : Nat), (zipD xs ys)[i]? = match xs[i]?, ys[i]? with | some x, some y => some (.tuple [x, y]) | _, _ => none
  | [], _, i => by cases i <;> simp [zipD]
  | x :: xs, [], i => by
    cases i with
    | zero => simp [zipD]
    | succ i => simp [zipD]
  | x :: xs, y :: ys, i => by
    cases i with
    | zero => simp [zipD]
    | succ i =>
      rw [zipD, List.getElem?_cons_succ, List.getElem?_cons_succ, List.getElem?_cons_succ]
      exact zipD_get xs ys i
theorem zipD_len : ∀ (xs ys : List D), (zipD xs ys).length = min xs.length ys.length
  | [], _ => by simp [zipD]
  | x :: xs, [] => by simp [zipD]
  | x :: xs, y :: ys => by
    rw [zipD, List.length_cons, zipD_len xs ys, List.length_cons, List.length_cons]
    omega
theorem walks_zip {K : PySem.W.Frag} {a c : Addr} {xs ys : List D} {vs ws : List V} (r : RepB b sw Mu H (.ref a) (.list xs)) (h : H a = some (.lst vs)) (hr : RepAll Mu H vs xs) (r2 : RepB b sw Mu H (.ref c) (.list ys)) (h2 : H c = some (.lst ws)) (hr2 : RepAll Mu H ws ys) :
    Walks b sw Mu H (Itz K a c) (zipD xs ys) := fun Mu' H' k f e i => by
  have h' := stays r h rfl f e
  have h2' := stays r2 h2 rfl f e
  refine ⟨fun d hd => ?_, fun hl => ⟨vs, ws, SqL.of h', SqL.of h2', ?_⟩⟩
  · rw [zipD_get] at hd
    split at hd
    · rename_i x y ex ey
      obtain rfl := Option.some.inj hd
      obtain ⟨v, hv, rv⟩ := hr.get ex
      obtain ⟨w, hw, rw'⟩ := hr2.get ey
      refine ⟨⟨vs, ws, v, w, SqL.of h', SqL.of h2', hv, hw⟩, fun z H'' ⟨T, y1, y2, ez, hT, e1, q1, q2⟩ => ?_⟩
      subst ez e1
      obtain rfl := Option.some.inj ((q1 vs (SqL.of h')).symm.trans hv)
      obtain rfl := Option.some.inj ((q2 ws (SqL.of h2')).symm.trans hw)
      exact ⟨same_new hT, .tup upd_same (.cons (Same.rep (same_new hT) (rv.keeps k)) (.cons (Same.rep (same_new hT) (rw'.keeps k)) .nil))⟩
    · cases hd
  · rw [zipD_len] at hl
    rw [hr.length, hr2.length]
    omega
theorem walks_zipT {K : PySem.W.Frag} {a c : Addr} {xs ys : List D} {vs ws : List V} (h : H a = some (.tup vs)) (hr : RepAll Mu H vs xs) (h2 : H c = some (.tup ws)) (hr2 : RepAll Mu H ws ys) :
    Walks b sw Mu H (RZ.ItzT K a c) (zipD xs ys) := fun Mu' H' k f e i => by
  have h' := k.tup _ _ h
  have h2' := k.tup _ _ h2
  refine ⟨fun d hd => ?_, fun hl => ⟨vs, ws, SqT.of h', SqT.of h2', ?_⟩⟩
  · rw [zipD_get] at hd
    split at hd
    · rename_i x y ex ey
      obtain rfl := Option.some.inj hd
      obtain ⟨v, hv, rv⟩ := hr.get ex
      obtain ⟨w, hw, rw'⟩ := hr2.get ey
      refine ⟨⟨vs, ws, v, w, SqT.of h', SqT.of h2', hv, hw⟩, fun z H'' ⟨T, y1, y2, ez, hT, e1, q1, q2⟩ => ?_⟩
      subst ez e1
      obtain rfl := Option.some.inj ((q1 vs (SqT.of h')).symm.trans hv)
      obtain rfl := Option.some.inj ((q2 ws (SqT.of h2')).symm.trans hw)
      exact ⟨same_new hT, .tup upd_same (.cons (Same.rep (same_new hT) (rv.keeps k)) (.cons (Same.rep (same_new hT) (rw'.keeps k)) .nil))⟩
    · cases hd
  · rw [zipD_len] at hl
    rw [hr.length, hr2.length]
    omega
theorem i_zip2 {f l r : Expr} {x y : E} {pos : Pos} {elts : List Expr} {kk : Nat} {tpos : Pos} {st : Bool} (O : XOk call fs N X) (hf : nameIs X.env.scope "zip" f = true) (hs : starredB l = false) (ht : starredB r = false) (hx : PE X l (tE sw call b x)) (hy : PE X r (tE sw call b y)) : PI X (.Tuple elts kk tpos) (.Call f [l, r] [] pos) (tIt sw call b (.zip2 st x y)) := by
  obtain ⟨pf, rfl, gf⟩ := nameIs_of hf
  refine ⟨fun pins s σ H R I ⟨Mu, env, src, ds, src', J, ev1, lk, k⟩ => ?_⟩
  cases st with
  | true => exact (stuck_some (show stuck src = _ from ev1)).elim
  | false =>
    obtain ⟨d, s1, e1, e2⟩ := bnd_some (show bnd (ev call b x env) _ src = _ from ev1)
    obtain ⟨d', s2, e3, e4⟩ := bnd_some e2
    have go : ∀ Q, (∀ vx vy H2 s2, src' = s2 → ExtS sw H H2 → SrcOk sw H2 s2 → RepB b sw Mu H2 vx d → RepB b sw Mu H2 vy d' → Q [vx, vy] H2) → s2 = src' → (tCons (tE sw call b x) (tCons (tE sw call b y) tNil)) σ H Q := fun Q hq es => by
      subst es
      refine ⟨Mu, env, src, d, s1, J, e1, fun v H1 E1 S1 R1 _ => ?_⟩
      have J1 := J.ext E1 S1
      exact ⟨Mu, env, s1, d', s2, J1, e3, fun v2 H2 E2 S2 R2 _ => hq _ _ H2 _ rfl (E1.trans E2) S2 (R1.ext E2 J1.swm J1.src) R2⟩
    have pz := RZ.pi_zipA (p := pf) (pos := pos) (elts := elts) (kk := kk) (tpos := tpos) gf (O.kit "zip" (by decide)) (pa_cons hx (pa_cons hy pa_nil (star_head ht)) (star_head hs)) (star_head hs) (star_any (es := [r]) (by simp [ht]))
    cases d with
    | list xs =>
      cases d' with
      | list ys =>
        obtain ⟨rfl, rfl⟩ := ret_some (show ret (zipD xs ys) s2 = _ from e4)
        refine pz.run pins s σ H R I (go _ (fun vx vy H2 s3 es E S R1 R2 => ?_) rfl)
        subst es
        obtain ⟨a, vs, rfl, ha, ra⟩ := R1.list
        obtain ⟨c, ws, rfl, hc, rc⟩ := R2.list
        exact ⟨a, c, vs, ws, rfl, .inl ⟨SqL.of ha, SqL.of hc, k _ H2 E S (walks_zip R1 ha ra R2 hc rc)⟩⟩
      | _ => exact (stuck_some e4).elim
    | tuple xs =>
      cases d' with
      | tuple ys =>
        obtain ⟨rfl, rfl⟩ := ret_some (show ret (zipD xs ys) s2 = _ from e4)
        refine pz.run pins s σ H R I (go _ (fun vx vy H2 s3 es E S R1 R2 => ?_) rfl)
        subst es
        obtain ⟨a, vs, rfl, ha, ra⟩ := R1.tuple
        obtain ⟨c, ws, rfl, hc, rc⟩ := R2.tuple
        exact ⟨a, c, vs, ws, rfl, .inr ⟨SqT.of ha, SqT.of hc, k _ H2 E S (walks_zipT ha ra hc rc)⟩⟩
      | _ => exact (stuck_some e4).elim
    | _ => exact (stuck_some e4).elim
end
end Mp

set_option maxHeartbeats 4000000
/-! L3hh: enumerate(tuple). -/
namespace Mp
open PySem L2 PyProof.Rows PySem.W

theorem enum1_meets {v : Value} {o : Obj} {G : Heap → Prop} (B : Begins v o G) : Meets (Builtin.«enumerate.__new__» ⟨[.type "enumerate", v], []⟩)
    (fun _ R s => G s.heap ∧ R (.ok (.ret (.ref (s.heap.push o).objs.size))) { s with heap := (s.heap.push o).push { cls := .type "enumerate", data := .fields #[.none, .bool false, .ref s.heap.objs.size, rawInt 0, .none, .none] } }) := .of_wp fun prog w A R s h => by
  obtain ⟨hp, g, d, tk, os⟩ := s
  obtain ⟨h1, h2⟩ := h
  have hsub := sub_enumerate
  have go : ∀ {A' : Around} {E Q : Value → Shared → Prop}, Q (.ref hp.objs.size) ⟨hp.push o, g, d, tk, os⟩ → wpAny (model prog w) A' (pyIter v) Q E ⟨hp, g, d, tk, os⟩ := fun q => B.iter prog w _ _ ⟨hp, g, d, tk, os⟩ _ h1 q
  wp_walk using go
  refine wpAny_stack_any fun st => wpAny_pure ?_
  split <;> first
    | (rename_i c _ _ _ _ _; cases (c == Value.type "enumerate") <;> (wp_walk using go; exact ⟨_, rfl, h2⟩))
    | (wp_walk using go; exact ⟨_, rfl, h2⟩)
theorem enum1_call {prog : Program} {w : World} {A : Around} {E : Value → Shared → Prop} {s : Shared} {v : Value} {o : Obj} {G : Heap → Prop} {Q : Value → Shared → Prop} (B : Begins v o G) (h1 : G s.heap)
    (h : ∀ h', IsEnum h' (s.heap.objs.size + 1) s.heap.objs.size 0 .none → h'.get? s.heap.objs.size = some o → (∀ b u, s.heap.get? b = some u → h'.get? b = some u) → Q (.ref (s.heap.objs.size + 1)) { s with heap := h' }) :
    wpAny (model prog w) A (call (.type "enumerate") [v]) Q E s := by
  have hz : (s.heap.push o).objs.size = s.heap.objs.size + 1 := Heap.size_push ..
  have he := Heap.get?_push_size (s.heap.push o) (o := { cls := .type "enumerate", data := .fields #[.none, .bool false, .ref s.heap.objs.size, rawInt 0, .none, .none] }) rfl
  rw [hz] at he
  refine callType_new F.called_enumerate (by decide) (F.typeCall_enumerate_1 _) (F.newCall_enumerate_1 _) (fun obj => F.args_object_init_2 obj _) F.entry_enumerate_new (enum1_meets B) ⟨h1, ?_⟩
  show _ ∧ _
  rw [hz]
  exact ⟨⟨_, he, rfl⟩, h _ he (Heap.get?_push_of_some _ (Heap.get?_push_size _ B.free)) fun b u x => Heap.get?_push_of_some _ (Heap.get?_push_of_some _ x)⟩

/-- what a tuple's iterator draws -/
theorem draws_tup {prog : Program} {w : World} {A : Around} (hh : A.handled = none) {it l : Addr} {items : Array Value} (hil : it ≠ l) : Draws prog w A it [it, l] items.size (fun i v => items[i]? = some v) (fun i h => h.IsTupleIter it l i ∧ h.IsTuple l items) where
  live := fun i h st => st.1.elim fun o ho => ⟨o, ho.1⟩
  frame := fun i h h' st k => ⟨st.1.at fun o q => k it (by simp) o q, st.2.at fun o q => k l (by simp) o q⟩
  item := fun i s Q E hi st hQ => RZ.nextOf_tuple_item st.1 st.2 (x := items[i]) (by simp [hi]) fun h' hit hs => hQ _ h' s.toks (by simp [hi]) ⟨hit, st.2.extBut hs.extBut hil.symm⟩ hs
  done := fun s Q E st hE => RZ.nextOf_tuple_end hh st.1 st.2 (by simp) hE

theorem draws_end {prog : Program} {w : World} {A : Around} (hh : A.handled = none) {it l : Addr} {items : Array Value} {n : Nat} (hn : items[n]? = none) : Draws prog w A it [it, l] n (fun _ _ => True) (fun i h => i = n ∧ h.IsTupleIter it l n ∧ h.IsTuple l items) where
  live := fun i h st => st.2.1.elim fun o ho => ⟨o, ho.1⟩
  frame := fun i h h' st k => ⟨st.1, st.2.1.at fun o q => k it (by simp) o q, st.2.2.at fun o q => k l (by simp) o q⟩
  item := fun i s Q E hi st hQ => absurd st.1 (Nat.ne_of_lt hi)
  done := fun s Q E st hE => RZ.nextOf_tuple_end hh st.2.1 st.2.2 hn hE
/-- the tuple at a, each item in a new pair -/
def IteT (K : PySem.W.Frag) (a : Addr) : It :=
  ⟨fun i H => ∃ (xs : List V) (x : V), SqT K H a xs ∧ xs[i]? = some x, fun i H v H' => ∃ T x, v = .ref T ∧ H T = none ∧ H' = upd H T (.tup [.int (i : Nat), x]) ∧ ∀ xs, SqT K H a xs → xs[i]? = some x, fun i H => ∃ xs : List V, SqT K H a xs ∧ xs.length ≤ i⟩
theorem turn_enumT {P : Program} {w : World} {K : PySem.W.Frag} {elts : List Expr} {kk : Nat} {tpos : Pos} (a e it : Addr) :
    Turn P w K (.Tuple elts kk tpos) (IteT K a) [e, it] e (fun i h => (∃ old, IsEnum h e it ((i : Nat) : Int) old) ∧ h.IsTupleIter it a i ∧ e ≠ it) where
  mem := by simp
  obj := fun i h st b hb => by
    obtain ⟨⟨old, he⟩, ⟨o, ho, _, hd⟩, _⟩ := st
    rcases (show b = e ∨ b = it by simpa using hb) with z | z
    · rw [z]
      exact ⟨_, he, fun v q => nomatch q⟩
    · rw [z]
      exact ⟨o, ho, fun v q => by rw [hd] at q; cases q⟩
  keep := fun i h h' st k => ⟨st.1.elim fun old he => ⟨old, k e (by simp) _ he⟩, st.2.1.at fun o q => k it (by simp) o q, st.2.2⟩
  item := by
    intro X e1 e2 e3 hc i pins s σ H E I hf st hg
    subst e1; subst e2; subst e3
    obtain ⟨⟨old, he⟩, hit, hne⟩ := st
    obtain ⟨xs, x, hq, hx⟩ := hg
    obtain ⟨its, rv, p, hz⟩ := I.tuple hq
    obtain ⟨u, hu, ru⟩ := rv.get hx
    have hel := Heap.lt_size he
    have hil : it < s.heap.objs.size := by
      obtain ⟨_, q, _⟩ := hit
      exact Heap.lt_size q
    have pt : s.heap.IsTuple a its.toArray := p
    have hia : it ≠ a := by
      obtain ⟨o, ho, hcl, _⟩ := hit
      obtain ⟨o2, ho2, hcl2, _⟩ := pt
      rintro rfl
      rw [ho] at ho2
      cases ho2
      rw [hcl] at hcl2
      exact nomatch hcl2
    have hea : e ≠ a := by
      obtain ⟨o2, ho2, hcl2, _⟩ := pt
      rintro rfl
      rw [he] at ho2
      cases ho2
      exact nomatch (show Value.type "enumerate" = Value.type "tuple" from hcl2)
    have hi : i < its.toArray.size := by simpa using (List.getElem?_eq_some_iff.mp hu).1
    refine wpAny_pyNext_enum_itemD (draws_tup (A := X.A.in1) (I.ok.hd hc) (items := its.toArray) hia) he ⟨hit, pt⟩ hi hne (by simp [hne, hea]) fun x' h' tk hp ho st' hT hsz hk => ?_
    obtain rfl : u = x' := Option.some.inj ((show its[i]? = some u from hu).symm.trans (by simpa using hp))
    refine ⟨_, rfl, wpAny_letOwnedTupleGo_enum (s := { s with heap := h', toks := tk + 1 }) ho fun h'' he' sb => ?_⟩
    have hT2 := (sb.2 _ (Nat.ne_of_gt hel)).trans hT
    have new : ObjOk X.prog X.w (upd H s.heap.objs.size (.tup [.int (i : Nat), x])) h'' s.heap.objs.size (.tup [.int (i : Nat), x]) := ⟨by show 2 ≤ sizeLine; decide, [.int i tk, u], .cons ⟨_, rfl⟩ (.cons ru .nil), ⟨_, hT2, rfl, _, rfl⟩⟩
    have I1 : Inv X pins σ (upd H s.heap.objs.size (.tup [.int (i : Nat), x])) { s with heap := h'', toks := tk + 1 } :=
      I.turnedNew (ch := [e, it]) (fun b ob hb q => (sb.2 b (fun z => hb (by simp [z]))).trans (hk b ob (fun z => hb (by simp [z])) (fun z => hb (by simp [z])) q)) hf (Nat.le_refl _) new
    refine ⟨.ref s.heap.objs.size, _, I1, rfl, ⟨_, x, rfl, I.hok.fresh (Nat.le_refl _), rfl, fun ys hy => by rw [I.tuple_inj hy hq]; exact hx⟩, ⟨⟨u, ?_⟩, st'.1.at fun o q => (sb.2 it (Ne.symm hne)).trans q, hne⟩, fun b hb => ?_⟩
    · rw [show ((i + 1 : Nat) : Int) = (i : Int) + 1 by omega]
      exact he'
    · have hb' : b < s.heap.objs.size := by
        rcases (show b = e ∨ b = it by simpa using hb) with z | z
        · exact z ▸ hel
        · exact z ▸ hil
      rw [upd_ne (Nat.ne_of_lt hb')]
      exact (hf b hb).1
  done := by
    intro X e1 e2 e3 hc i pins s σ H E I hf st hg
    subst e1; subst e2; subst e3
    obtain ⟨⟨old, he⟩, hit, hne⟩ := st
    obtain ⟨xs, hq, hx⟩ := hg
    obtain ⟨its, rv, p, hz⟩ := I.tuple hq
    obtain ⟨f0, f1, f2, f3, f4, f5⟩ := hf it (by simp)
    have pt : s.heap.IsTuple a its.toArray := p
    have hl := rv.length
    have hn : its.toArray[i]? = none := by simp; omega
    refine wpAny_pyNext_enum_endD (fp := [it, a]) (n := i) (P := fun _ _ => True) (draws_end (A := X.A.in1) (I.ok.hd hc) hn) he ⟨rfl, hit, pt⟩ fun h' eb => ⟨rfl, I.turned (t' := s.toks) (fun b o hb q => eb b o hb q) f0 f1 f3 f4 f5⟩
  self := fun A i s Q E st h => let ⟨⟨_, he⟩, _⟩ := st; wpAny_pyIter_enum he h
def iEnumT (K : PySem.W.Frag) (ta : TA) : TI := fun σ H R => ta σ H fun vs H1 => ∃ a xs, vs = [.ref a] ∧ ((SqL K H1 a xs ∧ R (Ite K a) H1) ∨ (SqT K H1 a xs ∧ R (IteT K a) H1))
theorem pi_enumT {X : Cx} {e : Expr} {ta : TA} {p pos tpos : Pos} {elts : List Expr} {kk : Nat} (hg : Gl X "enumerate") (hm : X.mg "enumerate" = none) (ha : PA X [e] ta) (hs : starEach [e] X.env = [(false, eval e X.env)]) :
    PI X (.Tuple elts kk tpos) (.Call (.Name "enumerate" p) [e] [] pos) (iEnumT X.K ta) := by
  refine ⟨fun pins s σ H R I h => Call_ (ld_blt I hg hm boot_enumerate (PyProof.Rows.callWith_type1 (thn (ha.run pos pins s σ H _ I h) fun us s1 ⟨vs, H1, I1, r1, a, xs, ex, q⟩ => ?_) hs rfl))⟩
  subst ex
  obtain ⟨u, rfl, r⟩ := vals1 r1
  cases r
  have fresh : ∀ b ∈ [s1.heap.objs.size + 1, s1.heap.objs.size], FpOk X pins H1 b := fun b hb => by
    have hle : s1.heap.objs.size ≤ b := by
      rcases (show b = s1.heap.objs.size + 1 ∨ b = s1.heap.objs.size by simpa using hb) with z | z <;> omega
    exact I1.fpOk hle (I1.hok.fresh hle)
  rcases q with ⟨hq, q⟩ | ⟨hq, q⟩
  · obtain ⟨its, rv, p', hz⟩ := I1.list hq
    refine call_enumerate_list p'.isList fun h' he hit hsz hk => wpAny_pyIter_enum he ?_
    exact ⟨s1.heap.objs.size + 1, [s1.heap.objs.size + 1, s1.heap.objs.size], _, _, H1, rfl, I1.kept (t' := s1.toks) hk, turn_enum a (s1.heap.objs.size + 1) s1.heap.objs.size, ⟨⟨.none, he⟩, hit, Nat.succ_ne_self _⟩, fresh, q⟩
  · obtain ⟨its, rv, p', hz⟩ := I1.tuple hq
    have pt : s1.heap.IsTuple a its.toArray := p'
    refine enum1_call (begins_tuple a its.toArray) pt fun h' he hit hk => wpAny_pyIter_enum he ?_
    exact ⟨s1.heap.objs.size + 1, [s1.heap.objs.size + 1, s1.heap.objs.size], _, _, H1, rfl, I1.kept (t' := s1.toks) hk, turn_enumT a (s1.heap.objs.size + 1) s1.heap.objs.size, ⟨⟨.none, he⟩, ⟨_, hit, rfl, rfl⟩, Nat.succ_ne_self _⟩, fresh, q⟩
section
variable {b : Bool} {sw : Sw} {Mu : Addr → Prop} {H H1 : Hp} {X : Cx} {call : Call} {fs : List String} {N : List Str}
theorem enumFrom_get : ∀ (ds : List D) (n i : Nat), (enumFrom n ds)[i]? = (ds[i]?).map fun d => .tuple [.int ((n + i : Nat) : Int), d]
  | [], n, i => by simp [enumFrom]
  | d :: ds, n, 0 => by simp [enumFrom]
  | d :: ds, n, i + 1 => by
    rw [enumFrom, List.getElem?_cons_succ, List.getElem?_cons_succ, enumFrom_get ds]
    congr 2
    funext d
    rw [show n + 1 + i = n + (i + 1) by omega]
theorem enumFrom_len : ∀ (ds : List D) n, (enumFrom n ds).length = ds.length
  | [], n => rfl
  | d :: ds, n => by rw [enumFrom, List.length_cons, List.length_cons, enumFrom_len ds]
theorem walks_enumT {K : PySem.W.Frag} {a : Addr} {ds : List D} {xs : List V} (h : H1 a = some (.tup xs)) (hr : RepAll Mu H1 xs ds) : Walks b sw Mu H1 (IteT K a) (enumFrom 0 ds) := fun Mu' H' k f e i => by
  have h' := k.tup _ _ h
  refine ⟨fun d hd => ?_, fun hl => ⟨xs, SqT.of h', by rw [hr.length, ← enumFrom_len ds 0]; exact hl⟩⟩
  rw [enumFrom_get, Nat.zero_add] at hd
  obtain ⟨dx, ex, rfl⟩ := Option.map_eq_some_iff.mp hd
  obtain ⟨v, hv, rv⟩ := hr.get ex
  refine ⟨⟨xs, v, SqT.of h', hv⟩, fun z H'' ⟨T, y, ez, hT, e1, q1⟩ => ?_⟩
  subst ez e1
  obtain rfl := Option.some.inj ((q1 xs (SqT.of h')).symm.trans hv)
  exact ⟨same_new hT, .tup upd_same (.cons (.int _) (.cons (Same.rep (same_new hT) (rv.keeps k)) .nil))⟩
theorem i_enum {f l : Expr} {x : E} {pos : Pos} {elts : List Expr} {kk : Nat} {tpos : Pos} (O : XOk call fs N X) (hf : nameIs X.env.scope "enumerate" f = true) (hs : starredB l = false) (hx : PE X l (tE sw call b x)) : PI X (.Tuple elts kk tpos) (.Call f [l] [] pos) (tIt sw call b (.enum x)) := by
  obtain ⟨pf, rfl, gf⟩ := nameIs_of hf
  refine ⟨fun pins s σ H R I ⟨Mu, env, src, ds, src', J, ev1, lk, k⟩ => ?_⟩
  obtain ⟨d, s1, e1, e2⟩ := bnd_some (show bnd (ev call b x env) _ src = _ from ev1)
  have pz := pi_enumT (p := pf) (pos := pos) (elts := elts) (kk := kk) (tpos := tpos) gf (O.kit "enumerate" (by decide)) (pa_cons hx pa_nil (star_head hs)) (star_head hs)
  cases d with
  | list xs =>
    obtain ⟨rfl, rfl⟩ := ret_some (show ret (enumFrom 0 xs) s1 = _ from e2)
    refine pz.run pins s σ H R I ⟨Mu, env, src, _, _, J, e1, fun v H1 E1 S1 R1 _ => ?_⟩
    obtain ⟨a, vs, rfl, ha, ra⟩ := R1.list
    exact ⟨a, vs, rfl, .inl ⟨SqL.of ha, k _ H1 E1 S1 (walks_enum R1 ha ra)⟩⟩
  | tuple xs =>
    obtain ⟨rfl, rfl⟩ := ret_some (show ret (enumFrom 0 xs) s1 = _ from e2)
    refine pz.run pins s σ H R I ⟨Mu, env, src, _, _, J, e1, fun v H1 E1 S1 R1 _ => ?_⟩
    obtain ⟨a, vs, rfl, ha, ra⟩ := R1.tuple
    exact ⟨a, vs, rfl, .inr ⟨SqT.of ha, k _ H1 E1 S1 (walks_enumT ha ra)⟩⟩
  | _ => exact (stuck_some e2).elim
end
end Mp

set_option maxHeartbeats 4000000
/-! L3i: comprehensions. -/
namespace Mp
open PySem L2 PyProof.Rows PySem.W

theorem wipe_get (σ : L2.St) : ∀ (vs : List Nat) (j : Nat), (wipe σ vs)[j]? = if j ∈ vs then (if j < σ.length then some none else none) else σ[j]?
  | [], j => by simp [wipe]
  | v :: vs, j => by
    unfold wipe
    by_cases e : v = j
    · subst e
      rw [if_pos (.head _)]
      by_cases hl : v < σ.length
      · rw [List.getElem?_set_self (by rw [wipe_length]; exact hl), if_pos hl]
      · rw [List.getElem?_eq_none (by rw [List.length_set, wipe_length]; omega), if_neg hl]
    · rw [List.getElem?_set_ne e, wipe_get σ vs j]
      have : (j ∈ v :: vs) ↔ j ∈ vs := by
        rw [List.mem_cons]
        exact ⟨fun h => h.elim (fun h => absurd h.symm e) id, .inr⟩
      simp only [this]
theorem wipeE_length (σ : Ev) : ∀ vs : List Nat, (wipeE σ vs).length = σ.length
  | [] => rfl
  | v :: vs => by unfold wipeE; rw [List.length_set, wipeE_length σ vs]
theorem wipeE_get (σ : Ev) : ∀ (vs : List Nat) (j : Nat), (wipeE σ vs)[j]? = if j ∈ vs then (if j < σ.length then some .no else none) else σ[j]?
  | [], j => by simp [wipeE]
  | v :: vs, j => by
    unfold wipeE
    by_cases e : v = j
    · subst e
      rw [if_pos (.head _)]
      by_cases hl : v < σ.length
      · rw [List.getElem?_set_self (by rw [wipeE_length]; exact hl), if_pos hl]
      · rw [List.getElem?_eq_none (by rw [List.length_set, wipeE_length]; omega), if_neg hl]
    · rw [List.getElem?_set_ne e, wipeE_get σ vs j]
      have : (j ∈ v :: vs) ↔ j ∈ vs := by
        rw [List.mem_cons]
        exact ⟨fun h => h.elim (fun h => absurd h.symm e) id, .inr⟩
      simp only [this]
theorem wipe_eq {σ2 σ : L2.St} {vs : List Nat} (hl : σ2.length = σ.length) (h : ∀ j, j ∉ vs → σ2[j]? = (wipe σ vs)[j]?) : wipe σ2 vs = wipe σ vs := by
  apply List.ext_getElem?
  intro j
  rw [wipe_get σ2]
  by_cases hj : j ∈ vs
  · rw [if_pos hj, wipe_get σ, if_pos hj, hl]
  · rw [if_neg hj, h j hj]

section
variable {sw : Sw} {Mu Mu' : Addr → Prop} {H H' : Hp} {s s' : Src}
/-- the same state, where more may change and the heap has grown -/
theorem JE.move {env : Ev} {σ : L2.St} (J : JE sw Mu env σ H s) (k : Keeps Mu H Mu' H') (e : ExtS sw H H') (o : SrcOk sw H' s') (sub : ∀ a, Mu a → Mu' a) (dom : ∀ a, Mu' a → H' a ≠ none) : JE sw Mu' env σ H' s' := by
  refine ⟨J.len, o, fun p hp => ⟨sub _ (J.swm p hp).1, sub _ (J.swm p hp).2⟩, dom, fun i sl h => ?_⟩
  have q := J.slot i sl h
  cases sl with
  | no => trivial
  | frz d => obtain ⟨v, h1, h2⟩ := q; exact ⟨v, h1, h2.keeps k⟩
  | own d => obtain ⟨a, h1, h2, h3, h4⟩ := q; exact ⟨a, h1, sub _ h2, h3, h4.keeps k fun u r => e a _ r h3⟩
  | src => exact q
theorem JE.wipe {env : Ev} {σ : L2.St} (J : JE sw Mu env σ H s) (vs : List Nat) : JE sw Mu (wipeE env vs) (L2.wipe σ vs) H s := by
  refine ⟨by rw [wipeE_length, wipe_length]; exact J.len, J.src, J.swm, J.dom, fun i sl h => ?_⟩
  rw [wipeE_get] at h
  rw [wipe_get]
  by_cases hi : i ∈ vs
  · rw [if_pos hi] at h
    split at h
    · obtain rfl := Option.some.inj h
      trivial
    · cases h
  · rw [if_neg hi] at h
    rw [if_neg hi]
    exact J.slot i sl h
/-- one new list may change -/
def plus (Mu : Addr → Prop) (D : Addr) : Addr → Prop := fun a => Mu a ∨ a = D
theorem keeps_plus {D : Addr} (m : SwIn sw Mu) (o : SrcOk sw H s) (e : ExtS sw H H') (hD : H D = none) : Keeps Mu H (plus Mu D) H' := by
  have k := e.keeps m o
  have ne : ∀ a u, H a = some u → a ≠ D := fun a u h z => by rw [z, hD] at h; cases h
  have nr : ∀ a u, Rd H a u → a ≠ D := fun a u h => h.elim (fun h => ne a _ h) fun ⟨o, h⟩ => ne a _ h
  exact ⟨fun a u h r => ⟨fun z => z.elim h (ne a _ r), (k.lst a u h r).2⟩, fun a u h r => ⟨fun z => z.elim h (nr a _ r), (k.dK a u h r).2⟩, fun a u h r => ⟨fun z => z.elim h (nr a _ r), (k.dT a u h r).2⟩, k.tup⟩
theorem keeps_less {D : Addr} : Keeps (plus Mu D) H Mu H := ⟨fun a u h r => ⟨fun z => h (.inl z), r⟩, fun a u h r => ⟨fun z => h (.inl z), r⟩, fun a u h r => ⟨fun z => h (.inl z), r⟩, fun _ _ h => h⟩
theorem keeps_upd {D : Addr} {xs ys : List V} (hD : H D = some (.lst xs)) : Keeps (plus Mu D) H (plus Mu D) (upd H D (.lst ys)) := by
  have ne : ∀ a, ¬ plus Mu D a → a ≠ D := fun a h z => h (.inr z)
  have rd : ∀ a u, ¬ plus Mu D a → Rd H a u → Rd (upd H D (.lst ys)) a u := fun a u h r => r.elim (fun r => .inl (by rw [upd_ne (ne a h)]; exact r)) fun ⟨o, r⟩ => .inr ⟨o, by rw [upd_ne (ne a h)]; exact r⟩
  refine ⟨fun a u h r => ⟨h, by rw [upd_ne (ne a h)]; exact r⟩, fun a u h r => ⟨h, rd a _ h r⟩, fun a u h r => ⟨h, rd a _ h r⟩, fun a u h => ?_⟩
  rw [upd_ne (fun z => by rw [z, hD] at h; cases h)]
  exact h
theorem exts_upd {D : Addr} {u : HO} (e : ExtS sw H H') (hD : H D = none) : ExtS sw H (upd H' D u) := fun b o h off => by
  rw [upd_ne (fun z => by rw [z, hD] at h; cases h)]
  exact e b o h off
theorem src_upd {D : Addr} {u : HO} (o : SrcOk sw H' s') (h1 : ∀ p, sw = some p → p.1 ≠ D ∧ p.2 ≠ D) : SrcOk sw (upd H' D u) s' := fun p hp => ⟨(o p hp).ne, by rw [upd_ne (h1 p hp).1]; exact (o p hp).d, by rw [upd_ne (h1 p hp).2]; exact (o p hp).c⟩
theorem src_ne {D : Addr} (o : SrcOk sw H s) (hD : H D = none) : ∀ p, sw = some p → p.1 ≠ D ∧ p.2 ≠ D := fun p hp => ⟨fun z => (by have := (o p hp).d; rw [z, hD] at this; cases this), fun z => (by have := (o p hp).c; rw [z, hD] at this; cases this)⟩
end

theorem compLoop_len {f : D → M (Option D)} : ∀ {ds acc xs : List D} {s s' : Src}, acc.length ≤ lim → compLoop f ds acc s = some (xs, s') → xs.length ≤ lim
  | [], acc, xs, s, s', hl, e => by
    obtain ⟨rfl, _⟩ := ret_some (show ret acc s = _ from e)
    exact hl
  | d :: r, acc, xs, s, s', hl, e => by
    obtain ⟨o, s1, e1, e2⟩ := bnd_some (show bnd (f d) _ s = _ from e)
    cases o with
    | none => exact compLoop_len hl e2
    | some x =>
      have e2' : (if acc.length < lim then compLoop f r (acc ++ [x]) else stuck) s1 = some (xs, s') := e2
      split at e2'
      · rename_i hlt
        exact compLoop_len (by rw [List.length_append]; exact hlt) e2'
      · exact (stuck_some e2').elim

/-- one turn of a comprehension, in the small language -/
def turnC (call : Call) (t : T) (elt c : E) (env : Ev) (own : List Nat) (d : D) : M (Option D) :=
  bnd (lft (bindT t d (wipeE env own))) fun σ' => bnd (ev call false c σ') fun cd => match cd with
    | .bool ok => if ok then bnd (ev call false elt σ') fun x => ret (some x) else ret Option.none
    | _ => stuck

section
variable {sw : Sw} {call : Call} {X : Cx}
theorem lc_go {t : T} {it : I} {elt c : E} {own : List Nat} {tt : TT} {b : Bool} (hn : ∀ i ∈ namesT t, i ∈ own)
    (htt : ∀ σ H Q, tEt sw call c σ H Q → tt σ H Q) {σ : L2.St} {H : Hp} {Q : VK} {Mu : Addr → Prop} {env : Ev} {src : Src} {d' : D} {src' : Src} (J : JE sw Mu env σ H src) (e : ev call b (.comp elt t it c own) env src = some (d', src')) (lk : Locked it env σ H)
    (k : ∀ v H', ExtS sw H H' → SrcOk sw H' src' → RepB b sw Mu H' v d' → (freshE (.comp elt t it c own) = true → isSeqOrDict d' = true → ∀ a, v = .ref a → H a = none ∧ NoF H' a) → Q v H') :
    tLc (tIt sw call true it) (tT sw t) tt (tE sw call false elt) own σ H Q := by
  obtain ⟨ds, s1, e1, e2⟩ := bnd_some (show bnd (evI call true it env) _ src = _ from e)
  obtain ⟨xs, s2, e3, e4⟩ := bnd_some (show bnd (compLoop (turnC call t elt c env own) ds []) _ s1 = _ from e2)
  obtain ⟨rfl, rfl⟩ := ret_some e4
  refine ⟨Mu, env, src, ds, s1, J, e1, lk, fun Jt H1 E1 S1 W => ?_⟩
  intro Dp hD
  have J1 := J.ext E1 S1
  have hDs := src_ne S1 hD
  have offD : offS sw Dp := fun p hp => ⟨fun z => (hDs p hp).1 z.symm, fun z => (hDs p hp).2 z.symm⟩
  refine ⟨fun i m H2 => m = ds.length - i ∧ i ≤ ds.length ∧ ∃ (acc : List V) (accD : List D) (s : Src), H2 Dp = some (.lst acc) ∧ RepAll (plus Mu Dp) H2 acc accD ∧ ExtS sw H1 H2 ∧ SrcOk sw H2 s ∧ compLoop (turnC call t elt c env own) (ds.drop i) accD s = some (xs, _), ⟨ds.length, rfl, Nat.zero_le _, [], [], s1, upd_same, .nil, exts_upd (ExtS.refl sw H1) hD, src_upd S1 hDs, e3⟩, ?_⟩
  rintro i m H2 ⟨rfl, hi, acc, accD, s, hacc, racc, E2, S2, el⟩
  have kM : Keeps Mu H1 (plus Mu Dp) H2 := keeps_plus J1.swm S1 E2 hD
  have wk := W (plus Mu Dp) H2 kM (E2.fix J1.swm S1) (fun _ => E2) i
  by_cases hlt : i < ds.length
  · refine .inr ?_
    have hdi : ds[i]? = some ds[i] := List.getElem?_eq_getElem hlt
    rw [List.drop_eq_getElem_cons hlt] at el
    obtain ⟨go, yl⟩ := wk.1 _ hdi
    obtain ⟨o, s3, f1, f2⟩ := bnd_some (show bnd (turnC call t elt c env own ds[i]) _ s = _ from el)
    obtain ⟨env', s4, g1, g2⟩ := bnd_some (show bnd (lft (bindT t ds[i] (wipeE env own))) _ s = _ from f1)
    obtain ⟨g0, hes⟩ := lft_some g1
    subst hes
    obtain ⟨cd, s5, g3, g4⟩ := bnd_some g2
    refine ⟨go, fun H' => ∃ (acc : List V) (accD : List D) (s : Src), H' Dp = some (.lst acc) ∧ RepAll (plus Mu Dp) H' acc accD ∧ ExtS sw H1 H' ∧ SrcOk sw H' s ∧ compLoop (turnC call t elt c env own) (ds.drop (i + 1)) accD s = some (xs, _), fun H' w => ⟨ds.length - (i + 1), by omega, rfl, hlt, w⟩, fun x H3 y => ?_⟩
    obtain ⟨sm, rx⟩ := yl x H3 y
    have E3 : ExtS sw H1 H3 := E2.trans (ExtS.of_same sm)
    have S3 : SrcOk sw H3 s4 := S2.same sm
    have hD3 : H3 Dp = some (.lst acc) := sm _ _ hacc
    have dom3 : ∀ a, plus Mu Dp a → H3 a ≠ none := fun a ha => by
      rcases ha with ha | rfl
      · intro z
        exact J1.dom a ha (E3.none_back S3 z)
      · rw [hD3]; simp
    have J3 : JE sw (plus Mu Dp) (wipeE env own) (wipe σ own) H3 s4 := (J1.move (keeps_plus J1.swm S1 E3 hD) E3 S3 (fun a h => .inl h) dom3).wipe own
    refine ⟨plus Mu Dp, wipeE env own, s4, ds[i], env', rx, J3, g0, fun σ2 J4 l4 n4 => ⟨wipe_eq (by rw [l4, wipe_length]) fun j hj => n4 j fun h => hj (hn j h), ?_⟩⟩
    cases cd with
    | bool ok =>
      refine htt _ _ _ ⟨plus Mu Dp, env', s4, ok, s5, J4, g3, fun H4 E4 S4 => ?_⟩
      have J5 := J4.ext E4 S4
      have hD4 : H4 Dp = some (.lst acc) := E4 _ _ hD3 offD
      cases ok with
      | true =>
        refine Eq.mpr (if_pos rfl) ?_
        obtain ⟨y, s6, g5, g6⟩ := bnd_some (show bnd (ev call false elt env') _ s5 = _ from g4)
        obtain ⟨rfl, rfl⟩ := ret_some g6
        have f2' : (if accD.length < lim then compLoop (turnC call t elt c env own) (ds.drop (i + 1)) (accD ++ [y]) else stuck) _ = some (xs, _) := f2
        split at f2'
        · rename_i hlim
          refine ⟨plus Mu Dp, env', s5, y, _, J5, g5, fun vy H5 E5 S5 R5 _ => ?_⟩
          have hD5 : H5 Dp = some (.lst acc) := E5 _ _ hD4 offD
          have racc5 : RepAll (plus Mu Dp) H5 acc accD := RepAll.keeps (E5.keeps J5.swm J5.src) (RepAll.keeps (E4.keeps J4.swm J4.src) (Same.repAll sm racc))
          refine ⟨acc, hD5, by rw [racc5.length, ← lim_eq]; exact hlim, ⟨acc ++ [vy], accD ++ [y], _, upd_same, RepAll.keeps (keeps_upd hD5) (racc5.append (.cons R5.strict .nil)), exts_upd (E3.trans (E4.trans E5)) hD, src_upd S5 hDs, f2'⟩⟩
        · exact (stuck_some f2').elim
      | false =>
        refine Eq.mpr (if_neg Bool.false_ne_true) ?_
        obtain ⟨rfl, rfl⟩ := ret_some (show ret Option.none s5 = _ from g4)
        exact ⟨acc, accD, _, hD4, RepAll.keeps (E4.keeps J4.swm J4.src) (Same.repAll sm racc), E3.trans E4, S4, f2⟩
    | _ => exact (stuck_some g4).elim
  · have hie : i = ds.length := by omega
    subst hie
    refine .inl ⟨wk.2 (Nat.le_refl _), ?_⟩
    rw [List.drop_length] at el
    obtain ⟨rfl, hes⟩ := ret_some (show ret accD s = _ from el)
    subst hes
    refine k (.ref Dp) H2 (E1.trans E2) S2 (.inl (.lst (fun z => J1.dom Dp z hD) hacc (RepAll.keeps keeps_less racc))) fun _ _ a ea => ?_
    cases ea
    exact ⟨E1.none_back S1 hD, fun o u z => by rw [hacc] at z; cases z⟩
end
end Mp

set_option maxHeartbeats 4000000
/-! L3j: what the checker says is so: all expressions. -/
namespace Mp
open PySem L2 PyProof.Rows PySem.W

/-- what may be locked between: nothing else -/
structure Lk (H H' : Hp) : Prop where
  lst : ∀ b xs, H b = some (.lst xs) → H' b = some (.lst xs)
  dK : ∀ b xs, Rd H b (.dK xs) → Rd H' b (.dK xs)
  dT : ∀ b xs, Rd H b (.dT xs) → Rd H' b (.dT xs)
  tup : ∀ b xs, H b = some (.tup xs) → H' b = some (.tup xs)
section
variable {sw : Sw} {Mu : Addr → Prop} {H H' : Hp} {s : Src} {b : Bool}
theorem Lk.keeps (l : Lk H H') : Keeps Mu H Mu H' := ⟨fun a u h r => ⟨h, l.lst a u r⟩, fun a u h r => ⟨h, l.dK a u r⟩, fun a u h r => ⟨h, l.dT a u r⟩, l.tup⟩
theorem Lk.own (l : Lk H H') {a : Addr} {d : D} (h : Own Mu H a d) : Own Mu H' a d := by
  cases h with
  | lst h1 h2 => exact .lst (l.lst _ _ h1) (RepAll.keeps l.keeps h2)
  | dK h1 h2 => exact .dK (l.dK _ _ h1) (RepK.keeps l.keeps h2)
  | dT h0 h1 h2 => exact .dT h0 (l.dT _ _ h1) (RepT.keeps l.keeps h2)
theorem Lk.repB (l : Lk H H') {v : V} {d : D} (h : RepB b sw Mu H v d) : RepB b sw Mu H' v d := by
  rcases h with h | ⟨h1, a, h2, h3, h4, h5⟩
  · exact .inl (h.keeps l.keeps)
  · exact .inr ⟨h1, a, h2, h3, h4, l.own h5⟩
abbrev IsDct (u : HO) : Prop := (∃ ks, u = .dK ks) ∨ (∃ ks, u = .dT ks)
theorem lk_on {a : Addr} {u : HO} {od : Obj} (h : H a = some u) (hu : IsDct u) : Lk H (upd H a (.frz od u)) := by
  have ne : ∀ b w, H b = some w → (∀ ks, w ≠ .dK ks) → (∀ ks, w ≠ .dT ks) → b ≠ a := fun b w hb h1 h2 z => by
    rw [z, h] at hb
    cases hb
    rcases hu with ⟨ks, rfl⟩ | ⟨ks, rfl⟩
    · exact h1 _ rfl
    · exact h2 _ rfl
  refine ⟨fun b xs hb => by rw [upd_ne (ne b _ hb (by simp) (by simp))]; exact hb, fun b xs hb => ?_, fun b xs hb => ?_, fun b xs hb => by rw [upd_ne (ne b _ hb (by simp) (by simp))]; exact hb⟩
  · by_cases e : b = a
    · subst e
      rcases hb with hb | ⟨o, hb⟩
      · rw [h] at hb; cases hb
        exact .inr ⟨od, upd_same⟩
      · rw [h] at hb; cases hb
        rcases hu with ⟨_, z⟩ | ⟨_, z⟩ <;> cases z
    · rcases hb with hb | ⟨o, hb⟩
      · exact .inl (by rw [upd_ne e]; exact hb)
      · exact .inr ⟨o, by rw [upd_ne e]; exact hb⟩
  · by_cases e : b = a
    · subst e
      rcases hb with hb | ⟨o, hb⟩
      · rw [h] at hb; cases hb
        exact .inr ⟨od, upd_same⟩
      · rw [h] at hb; cases hb
        rcases hu with ⟨_, z⟩ | ⟨_, z⟩ <;> cases z
    · rcases hb with hb | ⟨o, hb⟩
      · exact .inl (by rw [upd_ne e]; exact hb)
      · exact .inr ⟨o, by rw [upd_ne e]; exact hb⟩
theorem lk_off {a : Addr} {u : HO} {od : Obj} (h : H a = some (.frz od u)) (hu : IsDct u) : Lk H (upd H a u) := by
  have ne : ∀ b w, H b = some w → (∀ o' u', w ≠ .frz o' u') → b ≠ a := fun b w hb h1 z => by
    rw [z, h] at hb
    cases hb
    exact h1 _ _ rfl
  refine ⟨fun b xs hb => by rw [upd_ne (ne b _ hb (by simp))]; exact hb, fun b xs hb => ?_, fun b xs hb => ?_, fun b xs hb => by rw [upd_ne (ne b _ hb (by simp))]; exact hb⟩
  · rcases hb with hb | ⟨o, hb⟩
    · exact .inl (by rw [upd_ne (ne b _ hb (by simp))]; exact hb)
    · by_cases e : b = a
      · subst e
        rw [h] at hb; cases hb
        exact .inl upd_same
      · exact .inr ⟨o, by rw [upd_ne e]; exact hb⟩
  · rcases hb with hb | ⟨o, hb⟩
    · exact .inl (by rw [upd_ne (ne b _ hb (by simp))]; exact hb)
    · by_cases e : b = a
      · subst e
        rw [h] at hb; cases hb
        exact .inl upd_same
      · exact .inr ⟨o, by rw [upd_ne e]; exact hb⟩
theorem JE.lk {env : Ev} {σ : L2.St} (J : JE sw Mu env σ H s) (l : Lk H H') (o : SrcOk sw H' s) (dom : ∀ a, Mu a → H' a ≠ none) : JE sw Mu env σ H' s := by
  refine ⟨J.len, o, J.swm, dom, fun i sl h => ?_⟩
  have q := J.slot i sl h
  cases sl with
  | no => trivial
  | frz d => obtain ⟨v, h1, h2⟩ := q; exact ⟨v, h1, h2.keeps l.keeps⟩
  | own d => obtain ⟨a, h1, h2, h3, h4⟩ := q; exact ⟨a, h1, h2, h3, l.own h4⟩
  | src => exact q
theorem rd_free {u : HO} {a : Addr} (h : Rd H a u) : H a = some u ∨ ∃ o, H a = some (.frz o u) := h
/-- the dict that a loop walks: locked already, or it can be locked -/
theorem lock_or {env : Ev} {σ : L2.St} {it : I} (J : JE sw Mu env σ H s) : Locked it env σ H ∨ ∃ i a u kvs, lockVar it = some i ∧ (env[i]? = some (.frz (.dict kvs)) ∨ env[i]? = some (.own (.dict kvs))) ∧ σ[i]? = some (some (.ref a)) ∧ H a = some u ∧ IsDct u ∧ offS sw a := by
  cases hl : lockVar it with
  | none => exact .inl fun i h => by rw [hl] at h; cases h
  | some i =>
    have go : ∀ kvs, (env[i]? = some (.frz (.dict kvs)) ∨ env[i]? = some (.own (.dict kvs))) → ∃ a, σ[i]? = some (some (.ref a)) ∧ offS sw a ∧ RepB true sw Mu H (.ref a) (.dict kvs) := fun kvs h => by
      rcases h with h | h
      · obtain ⟨v, h1, h2⟩ := J.slot i _ h
        cases h2 with
        | dK n1 n2 n3 => exact ⟨_, h1, off_of J.swm n1, .inl (.dK n1 n2 n3)⟩
        | dT n0 n1 n2 n3 => exact ⟨_, h1, off_of J.swm n1, .inl (.dT n0 n1 n2 n3)⟩
      · obtain ⟨a, h1, h2, h3, h4⟩ := J.slot i _ h
        exact ⟨a, h1, h3, .inr ⟨rfl, a, rfl, h2, h3, h4⟩⟩
    by_cases hk : ∃ kvs, (env[i]? = some (.frz (.dict kvs)) ∨ env[i]? = some (.own (.dict kvs)))
    · obtain ⟨kvs, hk⟩ := hk
      obtain ⟨a, h1, h2, h3⟩ := go kvs hk
      obtain ⟨a', ea, hh⟩ := h3.dictN
      cases ea
      have key : ∀ u, IsDct u → Rd H a u → (Locked it env σ H ∨ ∃ i' a u kvs, some i = some i' ∧ (env[i']? = some (.frz (.dict kvs)) ∨ env[i']? = some (.own (.dict kvs))) ∧ σ[i']? = some (some (.ref a)) ∧ H a = some u ∧ IsDct u ∧ offS sw a) := fun u hu rd => by
        rcases rd with rd | ⟨o, rd⟩
        · exact .inr ⟨i, a, u, kvs, rfl, hk, h1, rd, hu, h2⟩
        · exact .inl fun j hj kvs' _ => by
            rw [hl] at hj
            cases hj
            exact ⟨a, o, u, h1, rd⟩
      rcases hh with ⟨ks, rd, _⟩ | ⟨_, ks, rd, _⟩
      · exact key _ (.inl ⟨ks, rfl⟩) rd
      · exact key _ (.inr ⟨ks, rfl⟩) rd
    · refine .inl fun j hj kvs h => ?_
      rw [hl] at hj
      cases hj
      exact (hk ⟨kvs, h⟩).elim
end

section
variable {sw : Sw} {call : Call} {fs : List String} {N : List Str} {X : Cx}
theorem XOk.blk {X : Cx} (O : XOk call fs N X) (s : Shared) (H : Hp) (scope : Scope) (cenv : Env) (fp : List Addr) : XOk call fs N (X.blk s H scope cenv fp) := ⟨O.names, O.nd, O.calm, O.guards, O.units, O.kit, O.fns⟩

/-- a comprehension, the walked dict locked where there is one -/
theorem comp_go {t : T} {it : I} {elt c : E} {own : List Nat} {tt : TT} {b : Bool} (hn : ∀ i ∈ namesT t, i ∈ own)
    (htt : ∀ σ H Q, tEt sw call c σ H Q → tt σ H Q) {σ : L2.St} {H : Hp} {Q : VK} {Mu : Addr → Prop} {env : Ev} {src : Src} {d' : D} {src' : Src} (J : JE sw Mu env σ H src) (e : ev call b (.comp elt t it c own) env src = some (d', src'))
    (k : ∀ v H', ExtS sw H H' → SrcOk sw H' src' → RepB b sw Mu H' v d' → (freshE (.comp elt t it c own) = true → isSeqOrDict d' = true → ∀ a, v = .ref a → H a = none ∧ NoF H' a) → Q v H') :
    tLc (tIt sw call true it) (tT sw t) tt (tE sw call false elt) own σ H Q ∨ ∃ a u, H a = some u ∧ Mut (some u) ∧ ∀ od, tLc (tIt sw call true it) (tT sw t) tt (tE sw call false elt) own σ (upd H a (.frz od u)) fun v H' => H' a = some (.frz od u) ∧ Q v (upd H' a u) := by
  rcases lock_or (it := it) J with lk | ⟨i, a, u, kvs, hl, hk, hσ, ha, hu, off⟩
  · exact .inl (lc_go hn htt J e lk k)
  · have mu : Mut (some u) := by rcases hu with ⟨ks, rfl⟩ | ⟨ks, rfl⟩ <;> trivial
    refine .inr ⟨a, u, ha, mu, fun od => ?_⟩
    have offs : ∀ p, sw = some p → p.1 ≠ a ∧ p.2 ≠ a := fun p hp => ⟨fun z => (off p hp).1 z.symm, fun z => (off p hp).2 z.symm⟩
    have JL : JE sw Mu env σ (upd H a (.frz od u)) src := J.lk (lk_on ha hu) (src_upd J.src offs) fun b hb => by
      by_cases e : b = a
      · subst e; rw [upd_same]; simp
      · rw [upd_ne e]; exact J.dom b hb
    refine lc_go hn htt JL e (fun j hj kvs' _ => by
      rw [hl] at hj
      cases hj
      exact ⟨a, od, u, hσ, upd_same⟩) fun v H' E S R fr => ?_
    have ha' : H' a = some (.frz od u) := E a _ upd_same off
    refine ⟨ha', k v (upd H' a u) (fun b o hb hof => ?_) (src_upd S offs) ((lk_off ha' hu).repB R) fun f hd c ec => ?_⟩
    · by_cases e : b = a
      · subst e
        rw [ha] at hb
        cases hb
        exact upd_same
      · rw [upd_ne e]
        exact E b o (by rw [upd_ne e]; exact hb) hof
    · obtain ⟨this, nf⟩ := fr f hd c ec
      by_cases e : c = a
      · subst e; rw [upd_same] at this; cases this
      · rw [upd_ne e] at this
        exact ⟨this, fun o w z => by rw [upd_ne e] at z; exact nf o w z⟩

theorem e_comp {X : Cx} {b : Bool} {t : T} {it : I} {elt c : E} {own : List Nat} {p tg iter : Expr} {ifs : List Expr} {scope : Scope} {pos : Pos} {ownp : List (Str × Nat)} {tt : TT} (O : XOk call fs N X) (hi : PI X tg iter (tIt sw call true it)) (hset : setB iter = false)
    (ok : blkC N X.env.scope scope ownp = true) (ho : ownp.map (·.2) = own) (ht : chkT N (relS scope X.env.scope) (cellIn scope) t tg = true) (hn : ∀ i ∈ namesT t, i ∈ own)
    (hc : ∀ (s : Shared) (H : Hp) (C : Addr) (cl : List (Str × Addr)) (fp : List Addr), PTs (X.blk s H scope (compEnvC scope cl C X.env) fp) ifs tt) (htt : ∀ σ H Q, tEt sw call c σ H Q → tt σ H Q)
    (he : ∀ (s : Shared) (H : Hp) (C : Addr) (cl : List (Str × Addr)) (fp : List Addr), PE (X.blk s H scope (compEnvC scope cl C X.env) fp) p (tE sw call false elt)) :
    PE X (.ListComp p [⟨tg, iter, ifs, 0⟩] scope pos) (tE sw call b (.comp elt t it c own)) := by
  have hN := O.names
  subst hN
  subst ho
  have pl := pe_lc (pos := pos) O.calm O.nd hi (blkOk_by ok) (fun s H C cl fp => pg_t (sw := sw) (X := X.blk s H scope (compEnvC scope cl C X.env) fp) (N := X.N) (sc := relS scope X.env.scope) (fn := cellIn scope) rfl O.nd O.calm rfl rfl t tg ht) hc he (folded_of hset)
  refine ⟨fun pins s σ H Q I ⟨Mu, env, src, d', src', J, e, k⟩ => ?_⟩
  rcases comp_go hn htt J e k with h | h
  · exact pl.run pins s σ H Q I h
  · exact (pe_lock pl).run pins s σ H Q I h
theorem p_comp {X : Cx} {t : T} {it : I} {elt c : E} {own : List Nat} {p tg iter : Expr} {ifs : List Expr} {scope : Scope} {pos : Pos} {ownp : List (Str × Nat)} {tt : TT} {i : Nat} {y : Str} {py spos : Pos} (O : XOk call fs N X) (hy : N[i]? = some y) (hyl : X.env.scope.names.lookup y = some .local)
    (hsw : swapsWith (.ListComp p [⟨tg, iter, ifs, 0⟩] scope pos) (some (.Name y py)) spos.line X.env = pure true) (hi : PI X tg iter (tIt sw call true it)) (hset : setB iter = false)
    (ok : blkC N X.env.scope scope ownp = true) (ho : ownp.map (·.2) = own) (ht : chkT N (relS scope X.env.scope) (cellIn scope) t tg = true) (hn : ∀ i ∈ namesT t, i ∈ own)
    (hc : ∀ (s : Shared) (H : Hp) (C : Addr) (cl : List (Str × Addr)) (fp : List Addr), PTs (X.blk s H scope (compEnvC scope cl C X.env) fp) ifs tt) (htt : ∀ σ H Q, tEt sw call c σ H Q → tt σ H Q)
    (he : ∀ (s : Shared) (H : Hp) (C : Addr) (cl : List (Str × Addr)) (fp : List Addr), PE (X.blk s H scope (compEnvC scope cl C X.env) fp) p (tE sw call false elt)) :
    PS X (.Assign [.Name y py] (.ListComp p [⟨tg, iter, ifs, 0⟩] scope pos) spos) (tAsg (tE sw call false (.comp elt t it c own)) (gName i)) := by
  have hN := O.names
  subst hN
  subst ho
  have pl := ps_setLc (i := i) (pos := pos) (spos := spos) (py := py) O.calm O.nd hy hyl hsw hi (blkOk_by ok) (fun s H C cl fp => pg_t (sw := sw) (X := X.blk s H scope (compEnvC scope cl C X.env) fp) (N := X.N) (sc := relS scope X.env.scope) (fn := cellIn scope) rfl O.nd O.calm rfl rfl t tg ht) hc he (folded_of hset)
  refine ⟨fun pins s σ H D I ⟨Mu, env, src, d', src', J, e, k⟩ => ?_⟩
  rcases comp_go hn htt J e k with h | h
  · exact pl.run pins s σ H D I h
  · exact (ps_lock pl).run pins s σ H D I h
end
end Mp

set_option maxHeartbeats 4000000
/-! L3cc: a dict display of one pair. -/
namespace Mp
open PySem L2 PyProof.Rows PySem.W

theorem inv_ghostX {X : Cx} {pins : List (Addr × Obj)} {σ : L2.St} {H : Hp} {s : Shared} {a : Addr} (I : Inv X pins σ H s) (h : H a = some (.dK [])) : Inv X pins σ (upd H a (.dT [])) s := by
  obtain ⟨z, hd, vs, rel, dd⟩ := dk_of I.hok h
  have ev : vs = [] := List.length_eq_zero_iff.mp (by rw [← Paired.length rel]; rfl)
  subst ev
  obtain ⟨o, es, ep, h1, h2, h3, _, h4, _⟩ := dd
  have he : es.toList = [] := by
    have := h4.length
    exact List.length_eq_zero_iff.mp (by simpa using this)
  have new : ObjOk X.prog X.w (upd H a (.dT [])) s.heap a (.dT []) := ⟨Nat.zero_le _, hd, [], .nil, o, es, ep, h1, h2, h3, by rw [he]; rfl, .nil⟩
  exact I.write (x := a) (e := a) (t' := s.toks) (h' := s.heap) (by rw [h]; exact True.intro) (.inl rfl) (fun b v _ q => q) ⟨o, h1⟩ new

def tD1 (tk tv : TE) : TE := fun σ H Q => ∀ p, H p = none → tk σ (upd H p (.dK [])) fun x H1 => tv σ H1 fun y H2 => ∃ x' y', [(x, y)] = [(x', y')] ∧ H2 p = some (.dK []) ∧
  ((∃ c : Key, x' = kV c ∧ Q (.ref p) (upd H2 p (.dK [(c, y')]))) ∨ (∃ (cs : List Key) (q : Addr), x' = .ref q ∧ H2 q = some (.tup (cs.map kV)) ∧ Q (.ref p) (upd (upd H2 p (.dT [])) p (.dT [(cs, y')]))))
theorem pe_d1 {X : Cx} {pos : Pos} {ke ve : Expr} {tk tv : TE} (hu : X.A.units + 1 < cLine) (hk : PE X ke tk) (hv : PE X ve tv) : PE X (.Dict [some ke] [ve] pos) (tD1 tk tv) := by
  refine ⟨fun pins s σ H Q I q => ?_⟩
  have hn := I.hok.fresh (Nat.le_refl s.heap.objs.size)
  have I1 := I.laid (a := s.heap.objs.size) (o := .dK []) (h' := s.heap.push { cls := .type "dict", data := .dict #[] }) (t' := s.toks) (fun _ _ q => Heap.get?_push_of_some _ q) (Nat.le_refl _) (dk_empty s.heap I.big)
  rw [arm_eval_Dict, zip_pairTrees [some ke] [ve] X.env pos rfl rfl, dictDisplay_pairs _ (by simp [pairTrees]) (by simp [pairTrees])]
  refine wpAny_bind (wpAny_standAt (wpAny_bind ?_))
  unfold subDict
  refine wpAny_bind (wpAny_alloc ?_)
  refine wpAny_bind (wpAny_holding ?_)
  rw [if_pos (by simp [pairTrees])]
  refine wpAny_bind (thn ((pps_cons hk hv pps_nil).run pins _ σ _ (fun ps H2 => ∃ x y, ps = [(x, y)] ∧ H2 s.heap.objs.size = some (.dK []) ∧ ((∃ c : Key, x = kV c ∧ Q (.ref s.heap.objs.size) (upd H2 s.heap.objs.size (.dK [(c, y)]))) ∨ (∃ (cs : List Key) (q : Addr), x = .ref q ∧ H2 q = some (.tup (cs.map kV)) ∧ Q (.ref s.heap.objs.size) (upd (upd H2 s.heap.objs.size (.dT [])) s.heap.objs.size (.dT [(cs, y)]))))) I1 ?_) fun ws s2 ⟨ps, H2, I2, rel, x, y, eps, e, alt⟩ => ?_)
  · exact q _ hn
  subst eps
  cases rel with
  | @cons a b as bs h t =>
    cases t
    obtain ⟨u1, u2⟩ := b
    obtain ⟨rx, ry⟩ := h
    refine wpAny_holding ?_
    refine wpAny_bind ?_
    rw [List.forIn_cons]
    rcases alt with ⟨c, ex, q2⟩ | ⟨cs, p2, ex, et, q2⟩
    · obtain ⟨z, hd, vs0, r0, dd⟩ := dk_of I2.hok e
      cases r0
      subst ex
      refine wpAny_bind (wpAny_bind (wpAny_dictSet_pairs (hsz := Nat.zero_le _) (kV_is rx) dd fun h' dd' hs => wpAny_pure ?_))
      have he : ∃ q, h'.get? s.heap.objs.size = some q := let ⟨q, _, _, hq, _⟩ := dd'; ⟨q, hq⟩
      dsimp only
      rw [List.forIn_nil]
      refine wpAny_pure (wpAny_pure (wpAny_pure (wpAny_pure ?_)))
      exact ⟨.ref s.heap.objs.size, _, d_write I2 (by rw [e]; exact True.intro) hs he (dk_new (by rw [sizeLine_eq]; simp) hd (.cons ⟨rfl, ry⟩ .nil) dd'), rfl, q2⟩
    · have I3 := inv_ghostX I2 e
      subst ex
      cases (show u1 = Value.ref p2 from rx)
      have ne : p2 ≠ s.heap.objs.size := fun z => by rw [z, e] at et; cases et
      have eb : (upd H2 s.heap.objs.size (.dT [])) p2 = some (.tup (cs.map kV)) := by rw [upd_ne ne]; exact et
      obtain ⟨z, hd, xs, rel, dd⟩ := dt_of I3.hok upd_same
      cases rel
      refine wpAny_bind (wpAny_bind (wpAny_dictSet_heap (hsz := Nat.zero_le _) (knd := tupleKind (mixKind X.prog X.w)) (show X.A.units < cLine by omega) (key_of I3.hok eb) dd fun h' dd' hs => wpAny_pure ?_))
      dsimp only
      rw [List.forIn_nil]
      obtain ⟨q, es, ep, hq, h2, h3, h4, _, h5⟩ := dd'
      refine wpAny_pure (wpAny_pure (wpAny_pure (wpAny_pure ?_)))
      have new : ObjOk X.prog X.w (upd (upd H2 s.heap.objs.size (.dT [])) s.heap.objs.size (.dT [(cs, y)])) h' s.heap.objs.size (.dT [(cs, y)]) :=
        ⟨by rw [sizeLine_eq]; simp, hd, [(cs, p2, u2)], .cons ⟨rfl, by rw [upd_ne ne]; exact eb, ry⟩ .nil, q, es, ep, hq, h2, h3, h4, h5⟩
      exact ⟨.ref s.heap.objs.size, _, d_write I3 (by rw [upd_same]; exact True.intro) hs ⟨q, hq⟩ new, rfl, q2⟩

section
variable {X : Cx} {sw : Sw} {call : Call} {fs : List String} {N : List Str}
theorem e_dict1 {b : Bool} {pos : Pos} {ke ve : Expr} {k v : E} (hu : X.A.units + 1 < cLine) (hk : PE X ke (tE sw call false k)) (hv : PE X ve (tE sw call false v)) : PE X (.Dict [some ke] [ve] pos) (tE sw call b (.dict1 k v)) :=
  pe_imp (pe_d1 hu hk hv) fun σ H Q ⟨Mu, env, src, d', src', J, e, kk⟩ => by
    obtain ⟨kd, s1, e1, e2⟩ := bnd_some (show bnd (ev call false k env) _ src = _ from e)
    obtain ⟨vd, s2, e3, e4⟩ := bnd_some e2
    split at e4
    · rename_i hko
      obtain ⟨rfl, rfl⟩ := ret_some e4
      intro p hp
      have offp : ∀ q, sw = some q → q.1 ≠ p ∧ q.2 ≠ p := fun q hq => src_ne J.src hp q hq
      have offS' : offS sw p := fun q hq => ⟨fun z => (offp q hq).1 z.symm, fun z => (offp q hq).2 z.symm⟩
      have E0 : ExtS sw H (upd H p (.dK [])) := ExtS.of_same (same_new hp)
      have J0 : JE sw (plus Mu p) env σ (upd H p (.dK [])) src := J.move (keeps_plus J.swm J.src E0 hp) E0 (J.src.same (same_new hp)) (fun _ h => .inl h) fun b hb => by
        rcases hb with hb | rfl
        · rw [upd_ne (fun z => J.dom b hb (by rw [z]; exact hp))]
          exact J.dom b hb
        · rw [upd_same]
          simp
      refine ⟨plus Mu p, env, src, kd, s1, J0, e1, fun x H1 E1 S1 R1 _ => ?_⟩
      have J1 := J0.ext E1 S1
      refine ⟨plus Mu p, env, s1, vd, _, J1, e3, fun y H2 E2 S2 R2 _ => ?_⟩
      have J2 := J1.ext E2 S2
      have EE := E1.trans E2
      have hp2 : H2 p = some (.dK []) := EE p _ upd_same offS'
      have Rk : Rep (plus Mu p) H2 x kd := R1.strict.keeps (E2.keeps J1.swm J1.src)
      have Rv : Rep (plus Mu p) H2 y vd := R2.strict
      have nm : ¬ Mu p := fun m => J.dom p m hp
      have ne : ∀ b u, ¬ plus Mu p b → H2 b = some u → b ≠ p := fun b u h _ z => h (.inr z)
      have kp : ∀ H', (∀ b, b ≠ p → H' b = H2 b) → Keeps (plus Mu p) H2 Mu H' := fun H' off => by
        have rd : ∀ b u, ¬ plus Mu p b → Rd H2 b u → ¬ Mu b ∧ Rd H' b u := fun b u h r => ⟨fun z => h (.inl z), by
          have n : b ≠ p := fun z => h (.inr z)
          rcases r with r | ⟨o, r⟩
          · exact .inl (by rw [off b n]; exact r)
          · exact .inr ⟨o, by rw [off b n]; exact r⟩⟩
        refine ⟨fun b u h r => ⟨fun z => h (.inl z), ?_⟩, fun b u h r => rd b _ h r, fun b u h r => rd b _ h r, fun b u r => ?_⟩
        · rw [off b (fun z => h (.inr z))]
          exact r
        · rw [off b (fun z => by rw [z, hp2] at r; cases r)]
          exact r
      have ext : ∀ H', (∀ b, b ≠ p → H' b = H2 b) → ExtS sw H H' := fun H' off b o hb hof => by
        have n : b ≠ p := fun z => by rw [z, hp] at hb; cases hb
        rw [off b n]
        exact EE b o (by rw [upd_ne n]; exact hb) hof
      refine ⟨x, y, rfl, hp2, ?_⟩
      rcases key_cases (RepB.of (b := true) (sw := sw) Rk) hko with ⟨c, rfl, rfl⟩ | ⟨cs, a, rfl, rfl, ha⟩
      · have off : ∀ b, b ≠ p → (upd H2 p (.dK [(c, y)])) b = H2 b := fun b n => upd_ne n
        refine .inl ⟨c, rfl, kk _ _ (ext _ off) (src_upd S2 offp) (.inl (.dK nm (.inl upd_same) (.cons (Rv.keeps (kp _ off)) .nil))) fun _ _ b eb => ?_⟩
        cases eb
        exact ⟨hp, nof_upd (by simp)⟩
      · have off : ∀ b, b ≠ p → (upd (upd H2 p (.dT [])) p (.dT [(cs, y)])) b = H2 b := fun b n => by rw [upd_ne n, upd_ne n]
        refine .inr ⟨cs, a, rfl, ha, kk _ _ (ext _ off) (src_upd (src_upd S2 offp) offp) (.inl (.dT (by simp) nm (.inl upd_same) (.cons (Rv.keeps (kp _ off)) .nil))) fun _ _ b eb => ?_⟩
        cases eb
        exact ⟨hp, nof_upd (by simp)⟩
    · exact (stuck_some e4).elim
end
end Mp

/-! L3k: every text that the checker takes for a term has the term's reading. -/
namespace Mp
open PySem L2 PyProof.Rows PySem.W

def plainTest : Expr → Bool
  | .UnaryOp .Not _ _ => false
  | .BoolOp _ _ _ => false
  | .IfExp _ _ _ _ => false
  | .Compare _ _ _ _ => false
  | _ => true
theorem isTrue_of {a : Expr} {env : Env} (h : plainTest a = true) : ∀ whole, isTrue a env whole = (do let v ← whole; standAt a.pos; holding [v] (truthy v)) := by
  intro whole
  cases a with
  | UnaryOp op x p => cases op <;> first | rfl | cases h
  | BoolOp _ _ _ => cases h
  | IfExp _ _ _ _ => cases h
  | Compare _ _ _ _ => cases h
  | _ => rfl

structure Snd (sw : Sw) (call : Call) (fs : List String) (N : List Str) (e : E) : Prop where
  pe : ∀ (b : Bool) (X : Cx) (a : Expr), XOk call fs N X → chk N fs X.env.scope e a = true → PE X a (tE sw call b e)
  pt : ∀ (X : Cx) (a : Expr), XOk call fs N X → chk N fs X.env.scope e a = true → PT X a (tEt sw call e)
  pw : ∀ (X : Cx) (op : BoolOp) (vs : List Expr) (pos : Pos), XOk call fs N X → chk N fs X.env.scope e (.BoolOp op vs pos) = true → PW X (.BoolOp op vs pos) (tEt sw call e)
structure SndS (sw : Sw) (call : Call) (fs : List String) (N : List Str) (es : Es) : Prop where
  pa : ∀ (b : Bool) (X : Cx) (as : List Expr), XOk call fs N X → chks N fs X.env.scope es as = true → PA X as (tEs sw call b es)
structure SndO (sw : Sw) (call : Call) (fs : List String) (N : List Str) (o : Option E) : Prop where
  po : ∀ (X : Cx) (a : Option Expr), XOk call fs N X → chkO N fs X.env.scope o a = true → PO X a (tEo sw call o)
structure SndI (sw : Sw) (call : Call) (fs : List String) (N : List Str) (it : I) : Prop where
  pi : ∀ (b : Bool) (X : Cx) (tg a : Expr), XOk call fs N X → chkI N fs X.env.scope it tg a = true → PI X tg a (tIt sw call b it)

section
variable {sw : Sw} {call : Call} {fs : List String} {N : List Str}
/-- a form whose text is no test form of its own -/
theorem snd_plain {e : E} (pe : ∀ (b : Bool) (X : Cx) (a : Expr), XOk call fs N X → chk N fs X.env.scope e a = true → PE X a (tE sw call b e) ∧ plainTest a = true) : Snd sw call fs N e :=
  ⟨fun b X a O h => (pe b X a O h).1, fun X a O h => t_val (pe false X a O h).1 (isTrue_of (pe false X a O h).2), fun X op vs pos O h => by
    have := (pe false X _ O h).2
    cases this⟩
theorem units_of {X : Cx} (O : XOk call fs N X) : X.A.units + 65 < cLine := by have := O.units; omega

theorem s_var {i : Nat} : Snd sw call fs N (.var i) := snd_plain fun b X a O h => by
  unfold chk at h
  refine ⟨e_var O.names h, ?_⟩
  obtain ⟨x, p, rfl, _⟩ := slotIs_of h
  rfl
theorem s_int {i : Int} : Snd sw call fs N (.int i) := snd_plain fun b X a O h => by
  unfold chk at h
  split at h
  · obtain rfl := of_decide_eq_true (by simpa using h : decide (i = _) = true)
    exact ⟨e_const (v := .int i) pe_int (fun _ _ => .int i) rfl, rfl⟩
  · cases h
theorem s_bool {i : Bool} : Snd sw call fs N (.bool i) := snd_plain fun b X a O h => by
  unfold chk at h
  split at h
  · obtain rfl := eq_of_beq h
    exact ⟨e_const (v := .bl i) pe_bl (fun _ _ => .bl i) rfl, rfl⟩
  · cases h
theorem s_none : Snd sw call fs N .none := snd_plain fun b X a O h => by
  unfold chk at h
  split at h
  · exact ⟨e_const (v := .non) pe_non (fun _ _ => .non) rfl, rfl⟩
  · cases h
theorem s_str {i : Str} : Snd sw call fs N (.str i) := snd_plain fun b X a O h => by
  unfold chk at h
  split at h
  · obtain rfl := eq_of_beq h
    exact ⟨e_const (v := .str i) pe_str (fun _ _ => .str i) rfl, rfl⟩
  · cases h
theorem s_tup {es : Es} (s : SndS sw call fs N es) : Snd sw call fs N (.tup es) := snd_plain fun b X a O h => by
  unfold chk at h
  split at h
  · exact ⟨e_tup (N := N) (s.pa false X _ O h), rfl⟩
  · cases h
theorem s_lst {es : Es} (s : SndS sw call fs N es) : Snd sw call fs N (.lst es) := snd_plain fun b X a O h => by
  unfold chk at h
  split at h
  · exact ⟨e_lst (N := N) (s.pa false X _ O h), rfl⟩
  · cases h
theorem s_dict0 : Snd sw call fs N .dict0 := snd_plain fun b X a O h => by
  unfold chk at h
  split at h
  · exact ⟨e_dict0, rfl⟩
  · cases h
theorem s_dict1 {x y : E} (sx : Snd sw call fs N x) (sy : Snd sw call fs N y) : Snd sw call fs N (.dict1 x y) := snd_plain fun b X a O h => by
  unfold chk at h
  split at h
  · rw [Bool.and_eq_true] at h
    exact ⟨e_dict1 (by have := O.units; omega) (sx.pe false X _ O h.1) (sy.pe false X _ O h.2), rfl⟩
  · cases h
theorem s_bin {o : BOp} {x y : E} (sx : Snd sw call fs N x) (sy : Snd sw call fs N y) : Snd sw call fs N (.bin o x y) := snd_plain fun b X a O h => by
  unfold chk at h
  split at h
  · simp only [Bool.and_eq_true, decide_eq_true_eq] at h
    obtain ⟨⟨rfl, h1⟩, h2⟩ := h
    exact ⟨e_bin (sx.pe true X _ O h1) (sy.pe true X _ O h2), rfl⟩
  · cases h
theorem s_neg {x : E} (sx : Snd sw call fs N x) : Snd sw call fs N (.neg x) := snd_plain fun b X a O h => by
  unfold chk at h
  split at h
  · exact ⟨e_neg (sx.pe false X _ O h), rfl⟩
  · cases h
theorem s_not {x : E} (sx : Snd sw call fs N x) : Snd sw call fs N (.not_ x) := by
  refine ⟨fun b X a O h => ?_, fun X a O h => ?_, fun X op vs pos O h => ?_⟩
  · unfold chk at h
    split at h
    · exact e_not (sx.pe false X _ O h)
    · cases h
  · unfold chk at h
    split at h
    · exact t_not (sx.pt X _ O h)
    · cases h
  · unfold chk at h
    cases h
theorem s_and {x y : E} (sx : Snd sw call fs N x) (sy : Snd sw call fs N y) : Snd sw call fs N (.and_ x y) := by
  have pe : ∀ (b : Bool) (X : Cx) (a : Expr), XOk call fs N X → chk N fs X.env.scope (.and_ x y) a = true → PE X a (tE sw call b (.and_ x y)) := fun b X a O h => by
    unfold chk at h
    split at h
    · rw [Bool.and_eq_true] at h
      exact e_andG (sx.pe false X _ O h.1) (e_and1 (sy.pe false X _ O h.2))
    · rw [Bool.and_eq_true] at h
      exact e_andG (sx.pe false X _ O h.1) (sy.pe false X _ O h.2)
    · cases h
  have pw : ∀ (X : Cx) (a : Expr), XOk call fs N X → chk N fs X.env.scope (.and_ x y) a = true → PW X a (tEt sw call (.and_ x y)) := fun X a O h => by
    unfold chk at h
    split at h
    · rw [Bool.and_eq_true] at h
      exact t_and (sx.pt X _ O h.1) (pw_and1 (sy.pt X _ O h.2))
    · rw [Bool.and_eq_true] at h
      exact t_and (sx.pt X _ O h.1) (sy.pw X _ _ _ O h.2)
    · cases h
  exact ⟨pe, fun X a O h => (pw X a O h).pt, fun X op vs pos O h => pw X _ O h⟩
theorem s_or {x y : E} (sx : Snd sw call fs N x) (sy : Snd sw call fs N y) : Snd sw call fs N (.or_ x y) := by
  have pe : ∀ (b : Bool) (X : Cx) (a : Expr), XOk call fs N X → chk N fs X.env.scope (.or_ x y) a = true → PE X a (tE sw call b (.or_ x y)) := fun b X a O h => by
    unfold chk at h
    split at h
    · rw [Bool.and_eq_true] at h
      exact e_orG (sx.pe false X _ O h.1) (e_and1 (sy.pe false X _ O h.2))
    · rw [Bool.and_eq_true] at h
      exact e_orG (sx.pe false X _ O h.1) (sy.pe false X _ O h.2)
    · cases h
  have pw : ∀ (X : Cx) (a : Expr), XOk call fs N X → chk N fs X.env.scope (.or_ x y) a = true → PW X a (tEt sw call (.or_ x y)) := fun X a O h => by
    unfold chk at h
    split at h
    · rw [Bool.and_eq_true] at h
      exact t_or (sx.pt X _ O h.1) (pw_or1 (sy.pt X _ O h.2))
    · rw [Bool.and_eq_true] at h
      exact t_or (sx.pt X _ O h.1) (sy.pw X _ _ _ O h.2)
    · cases h
  exact ⟨pe, fun X a O h => (pw X a O h).pt, fun X op vs pos O h => pw X _ O h⟩
theorem s_cmp {o : COp} {x y : E} (sx : Snd sw call fs N x) (sy : Snd sw call fs N y) : Snd sw call fs N (.cmp o x y) := by
  refine ⟨fun b X a O h => ?_, fun X a O h => ?_, fun X op vs pos O h => ?_⟩
  · unfold chk at h
    split at h
    · simp only [Bool.and_eq_true, decide_eq_true_eq, Bool.not_eq_true'] at h
      obtain ⟨⟨⟨rfl, h1⟩, h2⟩, h3⟩ := h
      exact e_cmp (units_of O) h3 (sx.pe true X _ O h1) (sy.pe true X _ O h2)
    · cases h
  · unfold chk at h
    split at h
    · simp only [Bool.and_eq_true, decide_eq_true_eq, Bool.not_eq_true'] at h
      obtain ⟨⟨⟨rfl, h1⟩, h2⟩, h3⟩ := h
      exact t_cmp (units_of O) h3 (sx.pe true X _ O h1) (sy.pe true X _ O h2)
    · cases h
  · unfold chk at h
    cases h
theorem s_chain {o o' : COp} {x y z : E} (sx : Snd sw call fs N x) (sy : Snd sw call fs N y) (sz : Snd sw call fs N z) : Snd sw call fs N (.chain o o' x y z) := by
  refine ⟨fun b X a O h => ?_, fun X a O h => ?_, fun X op vs pos O h => ?_⟩
  · unfold chk at h
    split at h
    · simp only [Bool.and_eq_true, decide_eq_true_eq, Bool.not_eq_true'] at h
      obtain ⟨⟨⟨⟨⟨rfl, rfl⟩, h1⟩, h2⟩, h3⟩, h4⟩ := h
      exact e_chain (units_of O) h4 (sx.pe false X _ O h1) (sy.pe false X _ O h2) (sz.pe false X _ O h3)
    · cases h
  · unfold chk at h
    split at h
    · simp only [Bool.and_eq_true, decide_eq_true_eq, Bool.not_eq_true'] at h
      obtain ⟨⟨⟨⟨⟨rfl, rfl⟩, h1⟩, h2⟩, h3⟩, h4⟩ := h
      exact t_chain (units_of O) h4 (sx.pe false X _ O h1) (sy.pe false X _ O h2) (sz.pe false X _ O h3)
    · cases h
  · unfold chk at h
    cases h
theorem s_isN {x : E} (sx : Snd sw call fs N x) : Snd sw call fs N (.isNone x) := by
  refine ⟨fun b X a O h => ?_, fun X a O h => ?_, fun X op vs pos O h => ?_⟩
  · unfold chk at h
    split at h
    · exact e_isN (sx.pe true X _ O h)
    · cases h
  · unfold chk at h
    split at h
    · exact t_isN (sx.pe true X _ O h)
    · cases h
  · unfold chk at h
    cases h
theorem s_notN {x : E} (sx : Snd sw call fs N x) : Snd sw call fs N (.notNone x) := by
  refine ⟨fun b X a O h => ?_, fun X a O h => ?_, fun X op vs pos O h => ?_⟩
  · unfold chk at h
    split at h
    · exact e_notN (sx.pe true X _ O h)
    · cases h
  · unfold chk at h
    split at h
    · exact t_notN (sx.pe true X _ O h)
    · cases h
  · unfold chk at h
    cases h
theorem s_isB {c : Bool} {x : E} (sx : Snd sw call fs N x) : Snd sw call fs N (.isB x c) := by
  refine ⟨fun b X a O h => ?_, fun X a O h => ?_, fun X op vs pos O h => ?_⟩
  · unfold chk at h
    split at h
    · rw [Bool.and_eq_true, beq_iff_eq] at h
      obtain ⟨h, rfl⟩ := h
      exact e_isB (sx.pe false X _ O h)
    · cases h
  · unfold chk at h
    split at h
    · rw [Bool.and_eq_true, beq_iff_eq] at h
      obtain ⟨h, rfl⟩ := h
      exact t_isB (sx.pe false X _ O h)
    · cases h
  · unfold chk at h
    cases h
theorem s_notB {c : Bool} {x : E} (sx : Snd sw call fs N x) : Snd sw call fs N (.notB x c) := by
  refine ⟨fun b X a O h => ?_, fun X a O h => ?_, fun X op vs pos O h => ?_⟩
  · unfold chk at h
    split at h
    · rw [Bool.and_eq_true, beq_iff_eq] at h
      obtain ⟨h, rfl⟩ := h
      exact e_notB (sx.pe false X _ O h)
    · cases h
  · unfold chk at h
    split at h
    · rw [Bool.and_eq_true, beq_iff_eq] at h
      obtain ⟨h, rfl⟩ := h
      exact t_notB (sx.pe false X _ O h)
    · cases h
  · unfold chk at h
    cases h
theorem s_ite {z x y : E} (sz : Snd sw call fs N z) (sx : Snd sw call fs N x) (sy : Snd sw call fs N y) : Snd sw call fs N (.ite z x y) := by
  refine ⟨fun b X a O h => ?_, fun X a O h => ?_, fun X op vs pos O h => ?_⟩
  · unfold chk at h
    split at h
    · simp only [Bool.and_eq_true] at h
      exact e_ite (sz.pt X _ O h.1.1) (sx.pe false X _ O h.1.2) (sy.pe false X _ O h.2)
    · cases h
  · unfold chk at h
    split at h
    · simp only [Bool.and_eq_true] at h
      exact t_ite (sz.pt X _ O h.1.1) (sx.pt X _ O h.1.2) (sy.pt X _ O h.2)
    · cases h
  · unfold chk at h
    cases h
theorem s_idx {x y : E} (sx : Snd sw call fs N x) (sy : Snd sw call fs N y) : Snd sw call fs N (.idx x y) := snd_plain fun b X a O h => by
  unfold chk at h
  split at h
  · simp only [Bool.and_eq_true, Bool.not_eq_true'] at h
    exact ⟨e_idx O h.2 (sx.pe true X _ O h.1.1) (sy.pe false X _ O h.1.2), rfl⟩
  · cases h
theorem s_slice {x : E} {lo hi : Option E} (sx : Snd sw call fs N x) (sl : SndO sw call fs N lo) (sh : SndO sw call fs N hi) : Snd sw call fs N (.slice x lo hi) := snd_plain fun b X a O h => by
  unfold chk at h
  split at h
  · simp only [Bool.and_eq_true] at h
    exact ⟨e_slice (sx.pe true X _ O h.1.1) (sl.po X _ O h.1.2) (sh.po X _ O h.2), rfl⟩
  · cases h
theorem s_rev {x : E} (sx : Snd sw call fs N x) : Snd sw call fs N (.rev x) := snd_plain fun b X a O h => by
  unfold chk at h
  split at h
  · exact ⟨e_rev (sx.pe true X _ O h), rfl⟩
  · cases h
theorem s_rg1 {tp : Bool} {x : E} (sx : Snd sw call fs N x) : Snd sw call fs N (.rg1 tp x) := snd_plain fun b X a O h => by
  unfold chk at h
  split at h
  · simp only [Bool.and_eq_true, Bool.not_eq_true'] at h
    exact ⟨e_rg1 O h.1.1.1 h.1.1.2 h.2 (sx.pe false X _ O h.1.2), rfl⟩
  · cases h
theorem s_rg2 {tp : Bool} {x y : E} (sx : Snd sw call fs N x) (sy : Snd sw call fs N y) : Snd sw call fs N (.rg2 tp x y) := snd_plain fun b X a O h => by
  unfold chk at h
  split at h
  · simp only [Bool.and_eq_true, Bool.not_eq_true'] at h
    exact ⟨e_rg2 O h.1.1.1.1.1 h.1.1.1.1.2 h.1.2 h.2 (sx.pe false X _ O h.1.1.1.2) (sy.pe false X _ O h.1.1.2), rfl⟩
  · cases h
theorem s_isinst {t : Ty} {x : E} (sx : Snd sw call fs N x) : Snd sw call fs N (.isinst t x) := snd_plain fun b X a O h => by
  unfold chk at h
  split at h
  · simp only [Bool.and_eq_true, Bool.not_eq_true'] at h
    exact ⟨e_isinst O h.1.1.1 h.1.1.2 h.2 (sx.pe true X _ O h.1.2), rfl⟩
  · cases h
theorem s_bf {f : Bf} {es : Es} (s : SndS sw call fs N es) : Snd sw call fs N (.bf f es) := snd_plain fun b X a O h => by
  unfold chk at h
  split at h
  · simp only [Bool.and_eq_true, Bool.not_eq_true'] at h
    exact ⟨e_bf O h.1.1 h.2 (s.pa _ X _ O h.1.2), rfl⟩
  · cases h
theorem s_call {f : String} {k : Option Nat} {es : Es} (s : SndS sw call fs N es) : Snd sw call fs N (.call f k es) := snd_plain fun b X a O h => by
  unfold chk at h
  split at h
  · simp only [Bool.and_eq_true, Bool.not_eq_true'] at h
    obtain ⟨⟨⟨⟨h1, h2⟩, h3⟩, h4⟩, h5⟩ := h
    refine ⟨e_call O h1 (by simpa using h2) h3 h4 ?_, rfl⟩
    cases k with
    | none => exact fun bw => s.pa bw X _ O h5
    | some i =>
      have h5' := h5
      simp only [Bool.and_eq_true] at h5'
      exact ⟨h5'.1, fun bw => s.pa bw X _ O h5'.2⟩
  · cases h
theorem comp_parts {X : Cx} {a : Expr} {t : T} {it : I} {elt c : E} {own : List Nat} (se : Snd sw call fs N elt) (si : SndI sw call fs N it) (sc : Snd sw call fs N c) (O : XOk call fs N X) (h : chk N fs X.env.scope (.comp elt t it c own) a = true) :
    ∃ (p tg iter : Expr) (ifs : List Expr) (scope : Scope) (pos : Pos) (ownp : List (Str × Nat)) (tt : TT), a = .ListComp p [⟨tg, iter, ifs, 0⟩] scope pos ∧ PI X tg iter (tIt sw call true it) ∧ setB iter = false ∧ blkC N X.env.scope scope ownp = true ∧ ownp.map (·.2) = own ∧
      chkT N (relS scope X.env.scope) (cellIn scope) t tg = true ∧ (∀ i ∈ namesT t, i ∈ own) ∧ (∀ (s : Shared) (H : Hp) (C : Addr) (cl : List (Str × Addr)) (fp : List Addr), PTs (X.blk s H scope (compEnvC scope cl C X.env) fp) ifs tt) ∧ (∀ σ H Q, tEt sw call c σ H Q → tt σ H Q) ∧
      (∀ (s : Shared) (H : Hp) (C : Addr) (cl : List (Str × Addr)) (fp : List Addr), PE (X.blk s H scope (compEnvC scope cl C X.env) fp) p (tE sw call false elt)) := by
  unfold chk at h
  split at h
  · rename_i p tg iter ifs scope pos
    simp only [Bool.and_eq_true, Bool.not_eq_true', decide_eq_true_eq] at h
    obtain ⟨⟨⟨⟨⟨⟨⟨h1, h2⟩, h3⟩, h4⟩, h5⟩, h6⟩, h7⟩, h8⟩ := h
    have hn : ∀ i ∈ namesT t, i ∈ own := fun i hi => by
      have := List.all_eq_true.mp h6 i hi
      simpa using this
    have pelt : ∀ (s : Shared) (H : Hp) (C : Addr) (cl : List (Str × Addr)) (fp : List Addr), PE (X.blk s H scope (compEnvC scope cl C X.env) fp) p (tE sw call false elt) := fun s H C cl fp => se.pe false _ _ (O.blk s H scope _ fp) h7
    split at h8
    · have hc : c = .bool true := by
        cases c with
        | bool b => cases b <;> first | rfl | cases h8
        | _ => cases h8
      subst hc
      exact ⟨p, tg, iter, _, scope, pos, _, _, rfl, si.pi true X _ _ O h1, h2, h3, h4, h5, hn, fun _ _ _ _ _ => pts_nil, fun σ H Q ⟨Mu, env, src, cc, src', J, e, k⟩ => by cases e; exact k H (ExtS.refl sw H) J.src, pelt⟩
    · exact ⟨p, tg, iter, _, scope, pos, _, _, rfl, si.pi true X _ _ O h1, h2, h3, h4, h5, hn, fun s H C cl fp => pts_one (sc.pt _ _ (O.blk s H scope _ fp) h8), fun _ _ _ h => h, pelt⟩
    · cases h8
  · cases h
theorem s_comp {t : T} {it : I} {elt c : E} {own : List Nat} (se : Snd sw call fs N elt) (si : SndI sw call fs N it) (sc : Snd sw call fs N c) : Snd sw call fs N (.comp elt t it c own) := snd_plain fun b X a O h => by
  obtain ⟨p, tg, iter, ifs, scope, pos, ownp, tt, rfl, h1, h2, h3, h4, h5, h6, h7, h8, h9⟩ := comp_parts se si sc O h
  exact ⟨e_comp O h1 h2 h3 h4 h5 h6 h7 h8 h9, rfl⟩

theorem isTupE_of {tg : Expr} (h : isTupE tg = true) : ∃ es k p, tg = .Tuple es k p := by
  unfold isTupE at h
  split at h
  · exact ⟨_, _, _, rfl⟩
  · cases h
theorem si_over {e : E} (s : Snd sw call fs N e) : SndI sw call fs N (.over e) := ⟨fun b X tg a O h => by
  unfold chkI at h
  refine i_over O (s.pe b X _ O h) fun i hi => ?_
  subst hi
  unfold chk at h
  exact h⟩
theorem si_range1 {x : E} (s : Snd sw call fs N x) : SndI sw call fs N (.range1 x) := ⟨fun b X tg a O h => by
  unfold chkI at h
  split at h
  · simp only [Bool.and_eq_true, Bool.not_eq_true'] at h
    exact i_range1 O h.1.1 h.2 (s.pe false X _ O h.1.2)
  · cases h⟩
theorem si_range2 {x y : E} (s : Snd sw call fs N x) (s2 : Snd sw call fs N y) : SndI sw call fs N (.range2 x y) := ⟨fun b X tg a O h => by
  unfold chkI at h
  split at h
  · simp only [Bool.and_eq_true, Bool.not_eq_true'] at h
    exact i_range2 O h.1.1.1.1 h.1.2 h.2 (s.pe false X _ O h.1.1.1.2) (s2.pe false X _ O h.1.1.2)
  · cases h⟩
theorem si_enum {x : E} (s : Snd sw call fs N x) : SndI sw call fs N (.enum x) := ⟨fun b X tg a O h => by
  unfold chkI at h
  split at h
  · simp only [Bool.and_eq_true, Bool.not_eq_true'] at h
    obtain ⟨es, k, p, rfl⟩ := isTupE_of h.2
    exact i_enum O h.1.1.1 h.1.2 (s.pe b X _ O h.1.1.2)
  · cases h⟩
theorem si_zip2 {st : Bool} {x y : E} (s : Snd sw call fs N x) (s2 : Snd sw call fs N y) : SndI sw call fs N (.zip2 st x y) := ⟨fun b X tg a O h => by
  unfold chkI at h
  split at h
  · simp only [Bool.and_eq_true, Bool.not_eq_true'] at h
    obtain ⟨es, k, p, rfl⟩ := isTupE_of h.2
    exact i_zip2 O h.1.1.1.1.1 h.1.1.2 h.1.2 (s.pe b X _ O h.1.1.1.1.2) (s2.pe b X _ O h.1.1.1.2)
  · cases h⟩
theorem si_items {i : Nat} : SndI sw call fs N (.items i) := ⟨fun b X tg a O h => by
  unfold chkI at h
  split at h
  · simp only [Bool.and_eq_true] at h
    obtain ⟨⟨⟨h1, h2⟩, h3⟩, h4⟩ := h
    obtain rfl := eq_of_beq h1
    obtain ⟨es, k, p, rfl⟩ := isTupE_of h4
    exact i_items O h2 h3
  · cases h⟩
theorem si_values {i : Nat} : SndI sw call fs N (.values i) := ⟨fun b X tg a O h => by
  unfold chkI at h
  split at h
  · simp only [Bool.and_eq_true] at h
    obtain ⟨⟨h1, h2⟩, h3⟩ := h
    obtain rfl := eq_of_beq h1
    exact i_values O h2 h3
  · cases h⟩
theorem ss_nil : SndS sw call fs N .nil := ⟨fun b X as O h => by
  cases as with
  | nil => exact a_nil
  | cons a as => cases h⟩
theorem ss_cons {e : E} {r : Es} (s : Snd sw call fs N e) (sr : SndS sw call fs N r) : SndS sw call fs N (.cons e r) := ⟨fun b X as O h => by
  cases as with
  | nil => cases h
  | cons a as =>
    unfold chks at h
    simp only [Bool.and_eq_true, Bool.not_eq_true'] at h
    exact a_cons h.1.2 (s.pe b X _ O h.1.1) (sr.pa b X _ O h.2)⟩
theorem ss_star {e : E} {r : Es} (s : Snd sw call fs N e) (sr : SndS sw call fs N r) : SndS sw call fs N (.star e r) := ⟨fun b X as O h => by
  cases as with
  | nil => cases h
  | cons a as =>
    cases a with
    | Starred x p =>
      unfold chks at h
      rw [Bool.and_eq_true] at h
      exact a_star (s.pe true X _ O h.1) (sr.pa b X _ O h.2)
    | _ => cases h⟩
theorem so_none : SndO sw call fs N .none := ⟨fun X a O h => by
  cases a with
  | none => exact o_none
  | some _ => cases h⟩
theorem so_some {e : E} (s : Snd sw call fs N e) : SndO sw call fs N (.some e) := ⟨fun X a O h => by
  cases a with
  | none => cases h
  | some a =>
    unfold chkO at h
    exact o_some (s.pe false X _ O h)⟩
theorem chk_me {sc : Scope} {m : Me} {o : E} {es : Es} {a : Expr} (h : chk N fs sc (.me m o es) a = true) : ∃ k z l p e f pos, m = .get ∧ es = .cons k (.cons z .nil) ∧ a = .Call (.Attribute l (sN "get") p) [e, f] [] pos ∧
    chk N fs sc o l = true ∧ chk N fs sc k e = true ∧ chk N fs sc z f = true ∧ starredB e = false ∧ starredB f = false ∧ callNoBase l = true ∧ (p.endLine == pos.line) = true := by
  unfold chk at h
  split at h
  · simp only [Bool.and_eq_true, Bool.not_eq_true'] at h
    obtain ⟨⟨⟨⟨⟨⟨⟨h1, h2⟩, h3⟩, h4⟩, h5⟩, h6⟩, h7⟩, h8⟩ := h
    obtain rfl := eq_of_beq h1
    exact ⟨_, _, _, _, _, _, _, rfl, rfl, rfl, h2, h3, h4, h5, h6, h7, h8⟩
  · cases h
theorem s_me {m : Me} {o : E} {es : Es} (so : Snd sw call fs N o) (hs : ∀ k z, es = .cons k (.cons z .nil) → Snd sw call fs N k ∧ Snd sw call fs N z) : Snd sw call fs N (.me m o es) := snd_plain fun b X a O h => by
  obtain ⟨k, z, l, p, e, f, pos, rfl, rfl, rfl, h2, h3, h4, h5, h6, h7, h8⟩ := chk_me h
  obtain ⟨sk, sz⟩ := hs k z rfl
  exact ⟨e_get O h7 h5 h6 h8 (so.pe true X _ O h2) (sk.pe false X _ O h3) (sz.pe false X _ O h4), rfl⟩
theorem s_me1 {m : Me} {o x : E} (so : Snd sw call fs N o) (sx : Snd sw call fs N x) : Snd sw call fs N (.me1 m o x) := snd_plain fun b X a O h => by
  unfold chk at h
  split at h
  · simp only [Bool.and_eq_true, Bool.not_eq_true'] at h
    obtain ⟨⟨⟨⟨⟨h1, h2⟩, h3⟩, h4⟩, h5⟩, h6⟩ := h
    obtain rfl := eq_of_beq h1
    exact ⟨e_me1 O h5 h4 h6 (so.pe true X _ O h2) (sx.pe false X _ O h3), rfl⟩
  · cases h
theorem s_nset {x : E} (sx : Snd sw call fs N x) : Snd sw call fs N (.nset x) := snd_plain fun b X a O h => by
  unfold chk at h
  split at h
  · simp only [Bool.and_eq_true, Bool.not_eq_true'] at h
    obtain ⟨⟨⟨h1, h2⟩, h3⟩, h4⟩ := h
    obtain ⟨p1, rfl, g1⟩ := nameIs_of h1
    obtain ⟨p2, rfl, g2⟩ := nameIs_of h2
    exact ⟨e_nset O g1 g2 h4 (sx.pe true X _ O h3), rfl⟩
  · cases h
theorem s_minv {x : E} (sx : Snd sw call fs N x) : Snd sw call fs N (.minv x) := snd_plain fun b X a O h => by
  unfold chk at h
  split at h
  · simp only [Bool.and_eq_true] at h
    obtain ⟨⟨⟨⟨h1, h2⟩, h3⟩, h4⟩, h5⟩ := h
    obtain ⟨p1, rfl, g1⟩ := nameIs_of h1
    obtain rfl := eq_of_beq h2
    exact ⟨e_minv O g1 h4 h5 (sx.pe true X _ O h3), rfl⟩
  · cases h
theorem no_i {it : I} (h : ∀ sc tg a, chkI N fs sc it tg a = false) : SndI sw call fs N it := ⟨fun b X tg a O z => by rw [h] at z; cases z⟩

mutual
theorem sE : ∀ e : E, Snd sw call fs N e
  | .var _ => s_var
  | .int _ => s_int
  | .bool _ => s_bool
  | .none => s_none
  | .str _ => s_str
  | .tup es => s_tup (sS es)
  | .lst es => s_lst (sS es)
  | .dict0 => s_dict0
  | .dict1 x y => s_dict1 (sE x) (sE y)
  | .bin _ x y => s_bin (sE x) (sE y)
  | .neg x => s_neg (sE x)
  | .not_ x => s_not (sE x)
  | .and_ x y => s_and (sE x) (sE y)
  | .or_ x y => s_or (sE x) (sE y)
  | .cmp _ x y => s_cmp (sE x) (sE y)
  | .chain _ _ x y z => s_chain (sE x) (sE y) (sE z)
  | .isNone x => s_isN (sE x)
  | .notNone x => s_notN (sE x)
  | .isB x _ => s_isB (sE x)
  | .notB x _ => s_notB (sE x)
  | .ite z x y => s_ite (sE z) (sE x) (sE y)
  | .idx x y => s_idx (sE x) (sE y)
  | .slice x lo hi => s_slice (sE x) (sO lo) (sO hi)
  | .rev x => s_rev (sE x)
  | .rg1 _ x => s_rg1 (sE x)
  | .rg2 _ x y => s_rg2 (sE x) (sE y)
  | .isinst _ x => s_isinst (sE x)
  | .bf _ es => s_bf (sS es)
  | .me _ o (.cons k (.cons z .nil)) => s_me (sE o) fun k' z' e => by cases e; exact ⟨sE k, sE z⟩
  | .me _ o .nil => s_me (sE o) fun _ _ e => by cases e
  | .me _ o (.star _ _) => s_me (sE o) fun _ _ e => by cases e
  | .me _ o (.cons _ .nil) => s_me (sE o) fun _ _ e => by cases e
  | .me _ o (.cons _ (.star _ _)) => s_me (sE o) fun _ _ e => by cases e
  | .me _ o (.cons _ (.cons _ (.cons _ _))) => s_me (sE o) fun _ _ e => by cases e
  | .me _ o (.cons _ (.cons _ (.star _ _))) => s_me (sE o) fun _ _ e => by cases e
  | .call _ _ es => s_call (sS es)
  | .comp elt _ it c _ => s_comp (sE elt) (sI it) (sE c)
  | .me1 _ o x => s_me1 (sE o) (sE x)
  | .nset x => s_nset (sE x)
  | .minv x => s_minv (sE x)
theorem sS : ∀ es : Es, SndS sw call fs N es
  | .nil => ss_nil
  | .cons e r => ss_cons (sE e) (sS r)
  | .star e r => ss_star (sE e) (sS r)
theorem sO : ∀ o : Option E, SndO sw call fs N o
  | .none => so_none
  | .some e => so_some (sE e)
theorem sI : ∀ it : I, SndI sw call fs N it
  | .over e => si_over (sE e)
  | .range1 x => si_range1 (sE x)
  | .range2 x y => si_range2 (sE x) (sE y)
  | .range3 _ _ _ => no_i fun _ _ _ => by unfold chkI; rfl
  | .enum x => si_enum (sE x)
  | .zip2 _ x y => si_zip2 (sE x) (sE y)
  | .zip3 _ _ _ _ => no_i fun _ _ _ => by unfold chkI; rfl
  | .items _ => si_items
  | .values _ => si_values
end
end
end Mp

set_option maxHeartbeats 4000000
/-! L3m: the state at statements; owned things. -/
namespace Mp
open PySem L2 PyProof.Rows PySem.W

section
variable {Mu : Addr → Prop} {H : Hp}
theorem rd_fun {a : Addr} {u w : HO} (h : Rd H a u) (k : Rd H a w) (n1 : ∀ o x, u ≠ .frz o x) (n2 : ∀ o x, w ≠ .frz o x) : u = w := by
  rcases h with h | ⟨o, h⟩
  · rcases k with k | ⟨o', k⟩
    · rw [h] at k; exact Option.some.inj k
    · rw [h] at k; exact absurd (Option.some.inj k) (n1 _ _)
  · rcases k with k | ⟨o', k⟩
    · rw [h] at k; exact absurd (Option.some.inj k).symm (n2 _ _)
    · rw [h] at k; cases k; rfl
mutual
theorem Rep.det : ∀ (d d' : D) (v : V), Rep Mu H v d → Rep Mu H v d' → d = d'
  | .none, _, _, h, k => by cases h; cases k; rfl
  | .bool b, _, _, h, k => by cases h; cases k; rfl
  | .int i, _, _, h, k => by cases h; cases k; rfl
  | .str x, _, _, h, k => by cases h; cases k; rfl
  | .list ds, d', v, h, k => by
    cases h with
    | lst h1 h2 h3 =>
      cases k with
      | lst k1 k2 k3 =>
        rw [h2] at k2; cases k2
        rw [RepAll.det ds _ _ h3 k3]
      | tup k2 k3 => rw [h2] at k2; cases k2
      | dK k1 k2 k3 => rcases k2 with k2 | ⟨_, k2⟩ <;> (rw [h2] at k2; cases k2)
      | dT k0 k1 k2 k3 => rcases k2 with k2 | ⟨_, k2⟩ <;> (rw [h2] at k2; cases k2)
  | .tuple ds, d', v, h, k => by
    cases h with
    | tup h2 h3 =>
      cases k with
      | lst k1 k2 k3 => rw [h2] at k2; cases k2
      | tup k2 k3 =>
        rw [h2] at k2; cases k2
        rw [RepAll.det ds _ _ h3 k3]
      | dK k1 k2 k3 => rcases k2 with k2 | ⟨_, k2⟩ <;> (rw [h2] at k2; cases k2)
      | dT k0 k1 k2 k3 => rcases k2 with k2 | ⟨_, k2⟩ <;> (rw [h2] at k2; cases k2)
  | .dict ds, d', v, h, k => by
    cases h with
    | dK h1 h2 h3 =>
      cases k with
      | lst k1 k2 k3 => rcases h2 with h2 | ⟨_, h2⟩ <;> (rw [h2] at k2; cases k2)
      | tup k2 k3 => rcases h2 with h2 | ⟨_, h2⟩ <;> (rw [h2] at k2; cases k2)
      | dK k1 k2 k3 =>
        have e := rd_fun h2 k2 (by simp) (by simp)
        cases e
        rw [RepK.det ds _ _ h3 k3]
      | dT k0 k1 k2 k3 => cases rd_fun h2 k2 (by simp) (by simp)
    | dT h0 h1 h2 h3 =>
      cases k with
      | lst k1 k2 k3 => rcases h2 with h2 | ⟨_, h2⟩ <;> (rw [h2] at k2; cases k2)
      | tup k2 k3 => rcases h2 with h2 | ⟨_, h2⟩ <;> (rw [h2] at k2; cases k2)
      | dK k1 k2 k3 => cases rd_fun h2 k2 (by simp) (by simp)
      | dT k0 k1 k2 k3 =>
        have e := rd_fun h2 k2 (by simp) (by simp)
        cases e
        rw [RepT.det ds _ _ h3 k3]
theorem RepAll.det : ∀ (ds ds' : List D) (vs : List V), RepAll Mu H vs ds → RepAll Mu H vs ds' → ds = ds'
  | [], _, _, h, k => by cases h; cases k; rfl
  | d :: ds, _, _, h, k => by
    cases h with
    | cons h1 h2 =>
      cases k with
      | cons k1 k2 => rw [Rep.det d _ _ h1 k1, RepAll.det ds _ _ h2 k2]
theorem RepK.det : ∀ (ds ds' : List (D × D)) (vs : List (Key × V)), RepK Mu H vs ds → RepK Mu H vs ds' → ds = ds'
  | [], _, _, h, k => by cases h; cases k; rfl
  | (c, d) :: ds, _, _, h, k => by
    cases h with
    | cons h1 h2 =>
      cases k with
      | cons k1 k2 => rw [Rep.det d _ _ h1 k1, RepK.det ds _ _ h2 k2]
theorem RepT.det : ∀ (ds ds' : List (D × D)) (vs : List (List Key × V)), RepT Mu H vs ds → RepT Mu H vs ds' → ds = ds'
  | [], _, _, h, k => by cases h; cases k; rfl
  | (c, d) :: ds, _, _, h, k => by
    cases h with
    | cons h1 h2 =>
      cases k with
      | cons k1 k2 => rw [Rep.det d _ _ h1 k1, RepT.det ds _ _ h2 k2]
end
/-! what is smaller than the tree at a holds no a -/
mutual
theorem Rep.plus {a : Addr} {d : D} (ha : Rep Mu H (.ref a) d) : ∀ (d' : D) (v : V), Rep Mu H v d' → sizeOf d' < sizeOf d → Rep (plus Mu a) H v d'
  | .none, _, h, _ => by cases h; exact .non
  | .bool b, _, h, _ => by cases h; exact .bl b
  | .int i, _, h, _ => by cases h; exact .int i
  | .str x, _, h, _ => by cases h; exact .str x
  | .list ds, v, h, z => by
    have h' := h
    cases h with
    | lst h1 h2 h3 =>
      refine .lst (fun q => q.elim h1 fun e => ?_) h2 (RepAll.plus ha ds _ h3 (by simp at z; omega))
      subst e
      rw [Rep.det _ _ _ h' ha] at z
      omega
  | .tuple ds, v, h, z => by
    cases h with
    | tup h2 h3 => exact .tup h2 (RepAll.plus ha ds _ h3 (by simp at z; omega))
  | .dict ds, v, h, z => by
    have h' := h
    cases h with
    | dK h1 h2 h3 =>
      refine .dK (fun q => q.elim h1 fun e => ?_) h2 (RepK.plus ha ds _ h3 (by simp at z; omega))
      subst e
      rw [Rep.det _ _ _ h' ha] at z
      omega
    | dT h0 h1 h2 h3 =>
      refine .dT h0 (fun q => q.elim h1 fun e => ?_) h2 (RepT.plus ha ds _ h3 (by simp at z; omega))
      subst e
      rw [Rep.det _ _ _ h' ha] at z
      omega
theorem RepAll.plus {a : Addr} {d : D} (ha : Rep Mu H (.ref a) d) : ∀ (ds : List D) (vs : List V), RepAll Mu H vs ds → sizeOf ds < sizeOf d → RepAll (plus Mu a) H vs ds
  | [], _, h, _ => by cases h; exact .nil
  | d' :: ds, _, h, z => by
    cases h with
    | cons h1 h2 => exact .cons (Rep.plus ha d' _ h1 (by simp at z; omega)) (RepAll.plus ha ds _ h2 (by simp at z; omega))
theorem RepK.plus {a : Addr} {d : D} (ha : Rep Mu H (.ref a) d) : ∀ (ds : List (D × D)) (vs : List (Key × V)), RepK Mu H vs ds → sizeOf ds < sizeOf d → RepK (plus Mu a) H vs ds
  | [], _, h, _ => by cases h; exact .nil
  | (c, d') :: ds, _, h, z => by
    cases h with
    | cons h1 h2 => exact .cons (Rep.plus ha d' _ h1 (by simp at z; omega)) (RepK.plus ha ds _ h2 (by simp at z; omega))
theorem RepT.plus {a : Addr} {d : D} (ha : Rep Mu H (.ref a) d) : ∀ (ds : List (D × D)) (vs : List (List Key × V)), RepT Mu H vs ds → sizeOf ds < sizeOf d → RepT (plus Mu a) H vs ds
  | [], _, h, _ => by cases h; exact .nil
  | (c, d') :: ds, _, h, z => by
    cases h with
    | cons h1 h2 => exact .cons (Rep.plus ha d' _ h1 (by simp at z; omega)) (RepT.plus ha ds _ h2 (by simp at z; omega))
end
theorem own_of_rep {a : Addr} {d : D} (h : Rep Mu H (.ref a) d) (hd : isSeqOrDict d = true) : Own (plus Mu a) H a d := by
  have h' := h
  cases h with
  | lst h1 h2 h3 => exact .lst h2 (RepAll.plus h' _ _ h3 (by simp))
  | tup h2 h3 => cases hd
  | dK h1 h2 h3 => exact .dK h2 (RepK.plus h' _ _ h3 (by simp))
  | dT h0 h1 h2 h3 => exact .dT h0 h2 (RepT.plus h' _ _ h3 (by simp))
end

/-! ### the state between statements -/
structure JS (sw : Sw) (Mu0 : Addr → Prop) (H0 : Hp) (Mu : Addr → Prop) (env : Ev) (σ : L2.St) (H : Hp) (s : Src) : Prop where
  je : JE sw Mu env σ H s
  dom0 : ∀ a, Mu0 a → H0 a ≠ none
  sub : ∀ a, Mu0 a → Mu a
  ext : ExtS sw H0 H
  own : ∀ (i : Nat) d, env[i]? = some (.own d) → ∀ a, σ[i]? = some (some (.ref a)) → H0 a = none ∧ ∀ o u, H a ≠ some (.frz o u)
  uniq : ∀ (i j : Nat) d d' a, i ≠ j → env[i]? = some (.own d) → env[j]? = some (.own d') → σ[i]? = some (some (.ref a)) → σ[j]? ≠ some (some (.ref a))
/-- from the one to the other nothing of what is no owned thing has changed -/
structure Stp (Mu : Addr → Prop) (H : Hp) (Mu' : Addr → Prop) (H' : Hp) : Prop where
  fix : Fix Mu H H'
  new : ∀ a, Mu' a → Mu a ∨ H a = none
  there : ∀ a, H a ≠ none → H' a ≠ none
section
variable {sw : Sw} {Mu0 Mu Mu' Mu'' : Addr → Prop} {H0 H H' H'' : Hp} {env : Ev} {σ : L2.St} {s s' : Src}
theorem Stp.refl : Stp Mu H Mu H := ⟨fun _ _ h _ => h, fun _ h => .inl h, fun _ h => h⟩
theorem Stp.none_back (a : Stp Mu H Mu' H') {b : Addr} (h : H' b = none) : H b = none := by
  cases q : H b with
  | none => rfl
  | some u => exact absurd h (a.there b (by rw [q]; simp))
theorem Stp.tr (a : Stp Mu H Mu' H') (b : Stp Mu' H' Mu'' H'') : Stp Mu H Mu'' H'' := by
  refine ⟨fun c u h m => ?_, fun c m => ?_, fun c h => b.there c (a.there c h)⟩
  · have h' := a.fix c u h m
    refine b.fix c u h' ?_
    rcases m with m | m
    · refine .inl fun z => ?_
      rcases a.new c z with q | q
      · exact m q
      · rw [q] at h; cases h
    · exact .inr m
  · rcases b.new c m with q | q
    · exact a.new c q
    · exact .inr (a.none_back q)
theorem Stp.trans (a : Stp Mu H Mu' H') (_ : ∀ b, Mu b → H' b ≠ none) (b : Stp Mu' H' Mu'' H'') : Stp Mu H Mu'' H'' := a.tr b
theorem Stp.keeps (a : Stp Mu H Mu' H') : Keeps Mu H Mu' H' := by
  have nm : ∀ c u, ¬ Mu c → H c = some u → ¬ Mu' c := fun c u h r z => by
    rcases a.new c z with q | q
    · exact h q
    · rw [q] at r; cases r
  have rd : ∀ c u, ¬ Mu c → Rd H c u → ¬ Mu' c ∧ Rd H' c u := fun c u h r => by
    rcases r with r | ⟨o, r⟩
    · exact ⟨nm c _ h r, .inl (a.fix c _ r (.inl h))⟩
    · exact ⟨nm c _ h r, .inr ⟨o, a.fix c _ r (.inl h)⟩⟩
  exact ⟨fun c u h r => ⟨nm c _ h r, a.fix c _ r (.inl h)⟩, fun c u h r => rd c _ h r, fun c u h r => rd c _ h r, fun c xs h => a.fix c _ h (.inr ⟨xs, rfl⟩)⟩
theorem Stp.of_ext (e : ExtS sw H H') (m : SwIn sw Mu) (o : SrcOk sw H s) (o' : SrcOk sw H' s') : Stp Mu H Mu H' := ⟨e.fix m o, fun _ h => .inl h, fun a h z => h (e.none_back o' z)⟩

theorem JS.ext' (J : JS sw Mu0 H0 Mu env σ H s) (e : ExtS sw H H') (o : SrcOk sw H' s') : JS sw Mu0 H0 Mu env σ H' s' := by
  refine ⟨J.je.ext e o, J.dom0, J.sub, J.ext.trans e, fun i d h a ha => ⟨(J.own i d h a ha).1, fun ob u hf => ?_⟩, J.uniq⟩
  obtain ⟨a', h1, h2, h3, h4⟩ := J.je.slot i _ h
  rw [ha] at h1
  cases h1
  cases q : H a with
  | none => exact J.je.dom a h2 q
  | some w =>
    rw [e a w q h3] at hf
    cases hf
    exact (J.own i d h a ha).2 _ _ q
/-- a slot is set to a value that is kept -/
theorem JS.setF (J : JS sw Mu0 H0 Mu env σ H s) (i : Nat) (hi : i < σ.length) {v : V} {d : D} (r : Rep Mu H v d) : JS sw Mu0 H0 Mu (env.set i (.frz d)) (σ.set i (some v)) H s := by
  have ne : ∀ (j : Nat) d', (env.set i (.frz d))[j]? = some (.own d') → i ≠ j ∧ env[j]? = some (.own d') := fun j d' h => by
    by_cases e : i = j
    · subst e
      rw [List.getElem?_set_self (by rw [J.je.len]; exact hi)] at h
      cases h
    · rw [List.getElem?_set_ne e] at h
      exact ⟨e, h⟩
  refine ⟨J.je.set i hi r, J.dom0, J.sub, J.ext, fun j d' h a ha => ?_, fun j l d1 d2 a hjl h1 h2 h3 => ?_⟩
  · obtain ⟨n, h⟩ := ne j d' h
    rw [List.getElem?_set_ne n] at ha
    exact J.own j d' h a ha
  · obtain ⟨n1, h1⟩ := ne j d1 h1
    obtain ⟨n2, h2⟩ := ne l d2 h2
    rw [List.getElem?_set_ne n1] at h3
    rw [List.getElem?_set_ne n2]
    exact J.uniq j l d1 d2 a hjl h1 h2 h3
/-- one thing more may be owned -/
theorem JS.plus {a : Addr} (J : JS sw Mu0 H0 Mu env σ H s) (e : ExtS sw H H') (o : SrcOk sw H' s') (ha : H a = none) (ha' : H' a ≠ none) : JS sw Mu0 H0 (plus Mu a) env σ H' s' := by
  have J1 := J.ext' e o
  refine ⟨J.je.move (keeps_plus J.je.swm J.je.src e ha) e o (fun _ h => .inl h) fun b hb => ?_, J.dom0, fun b h => .inl (J.sub b h), J1.ext, J1.own, J1.uniq⟩
  rcases hb with hb | rfl
  · exact J1.je.dom b hb
  · exact ha'
theorem stp_plus {a : Addr} (e : ExtS sw H H') (m : SwIn sw Mu) (o : SrcOk sw H s) (o' : SrcOk sw H' s') (ha : H a = none) : Stp Mu H (Mp.plus Mu a) H' := ⟨e.fix m o, fun b h => h.elim .inl fun z => .inr (by rw [z]; exact ha), fun a h z => h (e.none_back o' z)⟩
/-- a slot is set to an owned thing -/
theorem JS.setO (J : JS sw Mu0 H0 Mu env σ H s) (i : Nat) (hi : i < σ.length) {a : Addr} {d : D} (m : Mu a) (off : offS sw a) (o : Own Mu H a d) (h0 : H0 a = none) (nf : ∀ o u, H a ≠ some (.frz o u)) (other : ∀ (j : Nat) (d' : D), env[j]? = some (.own d') → σ[j]? ≠ some (some (.ref a))) : JS sw Mu0 H0 Mu (env.set i (.own d)) (σ.set i (some (.ref a))) H s := by
  have hie : i < env.length := by rw [J.je.len]; exact hi
  have get : ∀ (j : Nat) sl, (env.set i (.own d))[j]? = some sl → (i = j ∧ sl = .own d) ∨ (i ≠ j ∧ env[j]? = some sl) := fun j sl h => by
    by_cases e : i = j
    · subst e
      rw [List.getElem?_set_self hie] at h
      exact .inl ⟨rfl, (Option.some.inj h).symm⟩
    · rw [List.getElem?_set_ne e] at h
      exact .inr ⟨e, h⟩
  refine ⟨⟨by rw [List.length_set, List.length_set]; exact J.je.len, J.je.src, J.je.swm, J.je.dom, fun j sl h => ?_⟩, J.dom0, J.sub, J.ext, fun j d' h b hb => ?_, fun j l d1 d2 b hjl h1 h2 h3 => ?_⟩
  · rcases get j sl h with ⟨rfl, rfl⟩ | ⟨n, h⟩
    · exact ⟨a, List.getElem?_set_self hi, m, off, o⟩
    · rw [List.getElem?_set_ne n]
      exact J.je.slot j sl h
  · rcases get j _ h with ⟨rfl, _⟩ | ⟨n, h⟩
    · rw [List.getElem?_set_self hi] at hb
      cases hb
      exact ⟨h0, nf⟩
    · rw [List.getElem?_set_ne n] at hb
      exact J.own j d' h b hb
  · rcases get j _ h1 with ⟨rfl, _⟩ | ⟨n1, h1⟩
    · rcases get l _ h2 with ⟨rfl, _⟩ | ⟨n2, h2⟩
      · exact absurd rfl hjl
      · rw [List.getElem?_set_self hi] at h3
        cases h3
        rw [List.getElem?_set_ne n2]
        exact other l d2 h2
    · rw [List.getElem?_set_ne n1] at h3
      rcases get l _ h2 with ⟨rfl, _⟩ | ⟨n2, h2⟩
      · rw [List.getElem?_set_self hi]
        intro z
        cases z
        exact other j d1 h1 h3
      · rw [List.getElem?_set_ne n2]
        exact J.uniq j l d1 d2 b hjl h1 h2 h3
/-- an owned thing is changed -/
theorem JS.mut {x : Nat} {a : Addr} {d d' : D} {u o' : HO} (J : JS sw Mu0 H0 Mu env σ H s) (hx : env[x]? = some (.own d)) (hσ : σ[x]? = some (some (.ref a))) (ha : H a = some u) (hu : ∀ xs, u ≠ .tup xs) (ho : Own Mu (upd H a o') a d') (nf : ∀ o w, o' ≠ .frz o w) :
    JS sw Mu0 H0 Mu (env.set x (.own d')) σ (upd H a o') s ∧ Stp Mu H Mu (upd H a o') := by
  obtain ⟨a', h1, h2, h3, h4⟩ := J.je.slot x _ hx
  rw [hσ] at h1
  cases h1
  have hxl : x < env.length := (List.getElem?_eq_some_iff.mp hx).1
  have h0 := (J.own x d hx a hσ).1
  have fx : Fix Mu H (upd H a o') := fun b w hb m => by
    rw [upd_ne]
    · exact hb
    · rintro rfl
      rcases m with m | ⟨xs, rfl⟩
      · exact m h2
      · rw [ha] at hb
        exact hu xs (Option.some.inj hb)
  have kp : Keeps Mu H Mu (upd H a o') := fx.keeps
  have offs : ∀ p, sw = some p → p.1 ≠ a ∧ p.2 ≠ a := fun p hp => ⟨fun z => (h3 p hp).1 z.symm, fun z => (h3 p hp).2 z.symm⟩
  have get : ∀ (j : Nat) sl, (env.set x (.own d'))[j]? = some sl → (x = j ∧ sl = .own d') ∨ (x ≠ j ∧ env[j]? = some sl) := fun j sl h => by
    by_cases e : x = j
    · subst e
      rw [List.getElem?_set_self hxl] at h
      exact .inl ⟨rfl, (Option.some.inj h).symm⟩
    · rw [List.getElem?_set_ne e] at h
      exact .inr ⟨e, h⟩
  refine ⟨⟨⟨by rw [List.length_set]; exact J.je.len, src_upd J.je.src offs, J.je.swm, fun b hb => ?_, fun j sl h => ?_⟩, J.dom0, J.sub, exts_upd J.ext h0, fun j d1 h b hb => ?_, fun j l d1 d2 b hjl h1 h2 h3 => ?_⟩, fx, fun b h => .inl h, fun b h => by
    by_cases e : b = a
    · subst e; rw [upd_same]; simp
    · rw [upd_ne e]; exact h⟩
  · by_cases e : b = a
    · subst e; rw [upd_same]; simp
    · rw [upd_ne e]; exact J.je.dom b hb
  · rcases get j sl h with ⟨rfl, rfl⟩ | ⟨n, h⟩
    · exact ⟨a, hσ, h2, h3, ho⟩
    · have q := J.je.slot j sl h
      cases sl with
      | no => trivial
      | frz e => obtain ⟨v, q1, q2⟩ := q; exact ⟨v, q1, q2.keeps kp⟩
      | own e =>
        obtain ⟨b, q1, q2, q3, q4⟩ := q
        refine ⟨b, q1, q2, q3, q4.keeps kp fun w hw => ?_⟩
        rw [upd_ne]
        · exact hw
        · rintro rfl
          exact J.uniq x j d e b n hx h hσ q1
      | src => exact q
  · rcases get j _ h with ⟨rfl, _⟩ | ⟨n, h⟩
    · rw [hσ] at hb
      cases hb
      refine ⟨h0, fun o w z => ?_⟩
      rw [upd_same] at z
      exact nf _ _ (Option.some.inj z)
    · obtain ⟨q1, q2⟩ := J.own j d1 h b hb
      refine ⟨q1, fun o w z => ?_⟩
      rw [upd_ne] at z
      · exact q2 o w z
      · rintro rfl
        exact J.uniq x j d d1 b n hx h hσ hb
  · rcases get j _ h1 with ⟨rfl, _⟩ | ⟨n1, h1⟩
    · rcases get l _ h2 with ⟨rfl, _⟩ | ⟨n2, h2⟩
      · exact absurd rfl hjl
      · exact J.uniq x l d d2 b hjl hx h2 h3
    · rcases get l _ h2 with ⟨rfl, _⟩ | ⟨n2, h2⟩
      · exact J.uniq j x d1 d b hjl h1 hx h3
      · exact J.uniq j l d1 d2 b hjl h1 h2 h3
theorem keepE_get (keep : List Nat) (σ : Ev) (i : Nat) : (keepE keep σ)[i]? = (σ[i]?).map fun v => if keep.contains i then v else .no := by
  unfold keepE
  rw [List.getElem?_mapIdx]
theorem JS.keep (J : JS sw Mu0 H0 Mu env σ H s) (keep : List Nat) : JS sw Mu0 H0 Mu (keepE keep env) σ H s := by
  have get : ∀ (i : Nat) sl, (keepE keep env)[i]? = some sl → sl = .no ∨ env[i]? = some sl := fun i sl h => by
    rw [keepE_get] at h
    obtain ⟨w, h1, h2⟩ := Option.map_eq_some_iff.mp h
    split at h2
    · exact .inr (by rw [h1, h2])
    · exact .inl h2.symm
  refine ⟨⟨by unfold keepE; rw [List.length_mapIdx]; exact J.je.len, J.je.src, J.je.swm, J.je.dom, fun i sl h => ?_⟩, J.dom0, J.sub, J.ext, fun i d h a ha => ?_, fun i j d d' a hij h1 h2 h3 => ?_⟩
  · rcases get i sl h with rfl | h
    · trivial
    · exact J.je.slot i sl h
  · rcases get i _ h with q | h
    · cases q
    · exact J.own i d h a ha
  · rcases get i _ h1 with q | h1
    · cases q
    · rcases get j _ h2 with q | h2
      · cases q
      · exact J.uniq i j d d' a hij h1 h2 h3
end
end Mp

set_option maxHeartbeats 4000000
/-! L3n: which statements a term tells; assignments. -/
namespace Mp
open PySem L2 PyProof.Rows PySem.W

/-- the comprehension's frame is left for the store (one line, a plain local) -/
def swapB (sc : Scope) (x : Str) (p : Pos) (a : Expr) : Bool := match a with
  | .ListComp _ _ scope pos => decide (sc.kind = .function) && lclB sc x && p.line == pos.line && !(scope.names.any fun (n, k) => n == x && (k == .local || k == .cell))
  | _ => false
def compB : Expr → Bool
  | .ListComp _ _ _ _ => true
  | .SetComp _ _ _ _ => true
  | .DictComp _ _ _ _ _ => true
  | _ => false
def namesB : List Expr → Option (List Str)
  | [] => some []
  | .Name x _ :: r => (namesB r).map (x :: ·)
  | _ :: _ => none
/-- two or three plain locals at once, on one line -/
def parB (sc : Scope) (ts vs : List Expr) : Bool := match namesB ts with
  | some xs => (ts.length == 2 || ts.length == 3) && vs.length == ts.length && decide (sc.kind = .function) && !(vs.any starredB) && xs.all (lclB sc) && (ts.all fun t => t.pos.line == (ts.head?.map (·.pos.line)).getD 0) && decide (xs.eraseDups.length = xs.length) && !(vs.all (foldedForSure 8)) && !(vs.all (constantsAlone 8))
  | none => false

/-- a target that is no plain local among several -/
def noLocal (sc : Scope) : Expr → Bool
  | .Tuple ts _ _ => ts.any fun t => match t with | .Name x _ => !lclB sc x | _ => true
  | _ => false
def slotsOk (N : List Str) (sc : Scope) : List (Nat × Bool) → List Expr → Es → Bool
  | [], [], .nil => true
  | (i, o) :: is, .Name x _ :: ts, .cons e r => decide (N[i]? = some x) && locB sc x && (!o || freshE e) && slotsOk N sc is ts r
  | _, _, _ => false

mutual
def chkS (N : List Str) (fs : List String) (sc : Scope) : S → Stmt → Bool
  | .pass, st => match st with
    | .Pass _ => true
    | .Expr (.Constant (.str _) _ _) _ => true
    | _ => false
  | .assign i o e, st => match st with
    | .Assign [.Name x p] a pos => decide (N[i]? = some x) && locB sc x && chk N fs sc e a && (!o || freshE e)
    | _ => false
  | .assigns is es, st => match st with
    | .Assign [.Tuple ts kt tp] (.Tuple vs _ _) pos => decide (is.length = ts.length) && slotsOk N sc is ts es && chks N fs sc es vs && (parB sc ts vs || (noLocal sc (.Tuple ts kt tp) && decide (is.length ≤ 9))) && decide ((is.map (·.1)).Nodup)
    | _ => false
  | .unpack t e, st => match st with
    | .Assign [tg] a pos => isTupE tg && chkT N sc (fun _ => true) t tg && chk N fs sc e a && (!(isTupE a) || noLocal sc tg) && !(compB a)
    | _ => false
  | .pop t x at_, st => match t, at_, st with
    | some i, none, .Assign [.Name y p] (.Call (.Attribute l m ap) [] [] cp) pos => decide (N[i]? = some y) && locB sc y && m == sN "pop" && slotIs N sc x l && (ap.endLine == cp.line) && decide (i ≠ x)
    | some i, some e, .Assign [.Name y p] (.Call (.Attribute l m ap) [a] [] cp) pos => decide (N[i]? = some y) && locB sc y && m == sN "pop" && slotIs N sc x l && (ap.endLine == cp.line) && decide (i ≠ x) && chk N fs sc e a && !starredB a
    | _, _, _ => false
  | .dpop _ _, _ => false
  | .mut m x e, st => match st with
    | .Expr (.Call (.Attribute l f ap) [a] [] cp) pos => (match m with | .append => f == sN "append" | .extend => f == sN "extend" | .update => f == sN "update" | _ => false) && slotIs N sc x l && chk N fs sc e a && !starredB a && (ap.endLine == cp.line)
    | _ => false
  | .appPop _ _ _, _ => false
  | .setItem x k v, st => match st with
    | .Assign [.Subscript l i sp] a pos => slotIs N sc x l && chk N fs sc k i && chk N fs sc v a && !slicedB i
    | _ => false
  | .aug o i e, st => match st with
    | .AugAssign (.Name x p) op a pos => decide (N[i]? = some x) && locB sc x && decide (op = pyB o) && (match o with | .add => true | .sub => true | _ => false) && chk N fs sc e a
    | _ => false
  | .source _ _, st => match st with
    | .Raise _ _ _ => true
    | _ => false
  | .freeze _, _ => false
  | .if_ c a b, st => match st with
    | .If e p q _ => chk N fs sc c e && chkSs N fs sc a p && chkSs N fs sc b q
    | _ => false
  | .for_ t it keep body, st => match st with
    | .For tg iter b [] _ => chkT N sc (fun _ => true) t tg && chkI N fs sc it tg iter && !setB iter && chkSs N fs sc body b
    | _ => false
  | .while_ c keep body, st => match st with
    | .While e b [] _ => chk N fs sc c e && chkSs N fs sc body b
    | _ => false
  | .ret e, st => match st with
    | .Return (some a) _ => chk N fs sc e a
    | _ => false
def chkSs (N : List Str) (fs : List String) (sc : Scope) : Ss → List Stmt → Bool
  | .nil, sts => match sts with
    | [] => true
    | _ => false
  | .cons s r, sts => match s with
    | .freeze _ => chkSs N fs sc r sts
    | _ => match sts with
      | st :: sts => chkS N fs sc s st && chkSs N fs sc r sts
      | [] => false
end

/-- what a statement's reading asks -/
def tS (sw : Sw) (m : Ev → M Fl) : TS := fun D σ H => ∃ (Mu0 : Addr → Prop) (H0 : Hp) (Mu : Addr → Prop) (env : Ev) (src : Src) (fl : Fl) (src' : Src), JS sw Mu0 H0 Mu env σ H src ∧ m env src = some (fl, src') ∧
  match fl with
  | .next env' => ∀ Mu' σ' H', JS sw Mu0 H0 Mu' env' σ' H' src' → Stp Mu H Mu' H' → D.nx σ' H'
  | .ret d => ∀ v H', ExtS sw H0 H' → SrcOk sw H' src' → Rep Mu0 H' v d → D.rt v H'

structure XOkS (call : Call) (fs : List String) (N : List Str) (X : Cx) : Prop extends XOk call fs N X where
  fnT : X.fn = fun _ => true
  kind : X.env.scope.kind = .function
  xe : X.xe = fun _ _ => False

section
variable {X : Cx} {sw : Sw} {call : Call} {fs : List String} {N : List Str}
theorem ps_imp {st : Stmt} {t u : TS} (h : PS X st t) (f : ∀ D σ H, u D σ H → t D σ H) : PS X st u := ⟨fun pins s σ H D I q => h.run pins s σ H D I (f D σ H q)⟩

theorem swaps_eq {a : Expr} {x : Str} {p : Pos} {l : Nat} (hk : X.env.scope.kind = .function) (hc : compB a = true → ∃ elt gs scope pos, a = .ListComp elt gs scope pos) : swapsWith a (some (.Name x p)) l X.env = pure (swapB X.env.scope x p a) := by
  cases ha : compB a with
  | true =>
    obtain ⟨elt, gs, scope, pos, rfl⟩ := hc ha
    have e1 : (X.env.blockKind == .function) = true := by unfold Env.blockKind; rw [hk]; rfl
    have e2 : (X.env.kindOf x == some .local) = lclB X.env.scope x := by
      unfold Env.kindOf lclB
      split
      · rename_i h; rw [h]; rfl
      · rename_i h
        cases hh : X.env.scope.names.lookup x with
        | none => rfl
        | some k =>
          cases k with
          | «local» => exact absurd hh h
          | _ => rfl
    show (pure (X.env.blockKind == .function && X.env.kindOf x == some .local && p.line == pos.line && !(scope.names.any fun (n, k) => n == x && (k == .local || k == .cell))) : Sem Bool) = _
    rw [e1, e2]
    unfold swapB
    rw [hk]
    rfl
  | false =>
    cases a <;> first | rfl | cases ha

/-- a value is put into a slot -/
theorem asg_js {Mu0 Mu : Addr → Prop} {H0 H H1 : Hp} {env env' : Ev} {σ : L2.St} {s s1 : Src} {i : Nat} {o : Bool} {v : V} {d : D} (J : JS sw Mu0 H0 Mu env σ H s) (E : ExtS sw H H1) (S : SrcOk sw H1 s1) (r : Rep Mu H1 v d)
    (fr : o = true → isSeqOrDict d = true → ∀ a, v = .ref a → H a = none ∧ NoF H1 a) (ha : asg env i o d = some env') (hi : i < σ.length) : ∃ Mu', JS sw Mu0 H0 Mu' env' (σ.set i (some v)) H1 s1 ∧ Stp Mu H Mu' H1 := by
  unfold asg at ha
  split at ha
  · rename_i ho
    split at ha
    · rename_i hd
      obtain rfl := Option.some.inj ha
      have vref : ∃ a, v = .ref a := by
        cases r <;> first | exact ⟨_, rfl⟩ | cases hd
      obtain ⟨a, rfl⟩ := vref
      obtain ⟨hn, nf⟩ := fr ho hd a rfl
      have hne : H1 a ≠ none := by
        cases r with
        | lst _ h _ => rw [h]; simp
        | tup h _ => rw [h]; simp
        | dK _ h _ => rcases h with h | ⟨_, h⟩ <;> (rw [h]; simp)
        | dT _ _ h _ => rcases h with h | ⟨_, h⟩ <;> (rw [h]; simp)
      have offA : offS sw a := fun p hp => ⟨fun z => (src_ne J.je.src hn p hp).1 z.symm, fun z => (src_ne J.je.src hn p hp).2 z.symm⟩
      refine ⟨Mp.plus Mu a, (J.plus E S hn hne).setO i hi (.inr rfl) offA (own_of_rep r hd) (J.ext.none_back J.je.src hn) nf fun j d' hj hσ => ?_, stp_plus E J.je.swm J.je.src S hn⟩
      obtain ⟨a', q1, q2, _, _⟩ := J.je.slot j _ hj
      rw [hσ] at q1
      cases q1
      exact J.je.dom a q2 hn
    · cases ha
  · obtain rfl := Option.some.inj ha
    exact ⟨Mu, (J.ext' E S).setF i hi r, Stp.of_ext E J.je.swm J.je.src S⟩

theorem chk_comp {N : List Str} {sc : Scope} {e : E} {a : Expr} (h : chk N fs sc e a = true) (hc : compB a = true) : ∃ elt gs scope pos, a = .ListComp elt gs scope pos := by
  cases a with
  | ListComp _ _ _ _ => exact ⟨_, _, _, _, rfl⟩
  | SetComp _ _ _ _ =>
    cases e with
    | me m o es => obtain ⟨_, _, _, _, _, _, _, _, _, ea, _⟩ := chk_me h; cases ea
    | _ => first | (unfold chk at h; cases h; done) | (unfold chk at h; split at h <;> cases h)
  | DictComp _ _ _ _ _ =>
    cases e with
    | me m o es => obtain ⟨_, _, _, _, _, _, _, _, _, ea, _⟩ := chk_me h; cases ea
    | _ => first | (unfold chk at h; cases h; done) | (unfold chk at h; split at h <;> cases h)
  | _ => cases hc
end
end Mp

/-! L3o: statements, one by one. -/
namespace Mp
open PySem L2 PyProof.Rows PySem.W

mutual
theorem bindT_own : ∀ (t : T) (d : D) (env env' : Ev), bindT t d env = some env' → ∀ (j : Nat) (d' : D), env'[j]? = some (.own d') → env[j]? = some (.own d') ∧ j ∉ namesT t
  | .name i, d, env, env', hb, j, d', hj => by
    cases hb
    by_cases e : i = j
    · subst e
      by_cases hl : i < env.length
      · rw [List.getElem?_set_self hl] at hj; cases hj
      · rw [List.getElem?_eq_none (by rw [List.length_set]; omega)] at hj; cases hj
    · rw [List.getElem?_set_ne e] at hj
      refine ⟨hj, ?_⟩
      unfold namesT
      intro h
      exact e (List.mem_singleton.mp h).symm
  | .tup ts, d, env, env', hb, j, d', hj => by
    unfold namesT
    cases d with
    | tuple ds => exact bindTs_own ts ds env env' hb j d' hj
    | list ds => exact bindTs_own ts ds env env' hb j d' hj
    | _ => cases hb
theorem bindTs_own : ∀ (ts : List T) (ds : List D) (env env' : Ev), bindTs ts ds env = some env' → ∀ (j : Nat) (d' : D), env'[j]? = some (.own d') → env[j]? = some (.own d') ∧ j ∉ namesTs ts
  | [], ds, env, env', hb, j, d', hj => by
    unfold namesTs
    cases ds with
    | nil => cases hb; exact ⟨hj, fun h => nomatch h⟩
    | cons _ _ => cases hb
  | t :: ts, ds, env, env', hb, j, d', hj => by
    cases ds with
    | nil => cases hb
    | cons d ds =>
      unfold bindTs at hb
      obtain ⟨env1, b1, b2⟩ := Option.bind_eq_some_iff.mp hb
      obtain ⟨q1, q2⟩ := bindTs_own ts ds env1 env' b2 j d' hj
      obtain ⟨q3, q4⟩ := bindT_own t d env env1 b1 j d' q1
      refine ⟨q3, ?_⟩
      unfold namesTs
      rw [List.mem_append, not_or]
      exact ⟨q4, q2⟩
end

section
variable {X : Cx} {sw : Sw} {call : Call} {fs : List String} {N : List Str} {fuel : Nat}

theorem swapB_lc {sc : Scope} {x : Str} {p : Pos} {a : Expr} (h : swapB sc x p a = true) : ∃ elt gs scope pos, a = .ListComp elt gs scope pos := by
  unfold swapB at h
  split at h
  · exact ⟨_, _, _, _, rfl⟩
  · cases h
theorem swapB_lcl {sc : Scope} {x : Str} {p : Pos} {a : Expr} (h : swapB sc x p a = true) : sc.names.lookup x = some .local := by
  unfold swapB at h
  split at h
  · simp only [Bool.and_eq_true, decide_eq_true_eq] at h
    have z := h.1.1.2
    unfold lclB at z
    split at z
    · assumption
    · cases z
  · cases h
theorem chk_lc {sc : Scope} {e : E} {elt : Expr} {gs : List Comprehension} {scope : Scope} {pos : Pos} (h : chk N fs sc e (.ListComp elt gs scope pos) = true) : ∃ x t it c own, e = .comp x t it c own := by
  cases e with
  | comp x t it c own => exact ⟨_, _, _, _, _, rfl⟩
  | me m o es => obtain ⟨_, _, _, _, _, _, _, _, _, ea, _⟩ := chk_me h; cases ea
  | _ => first | (unfold chk at h; cases h; done) | (unfold chk at h; split at h <;> cases h)

/-- name = e -/
theorem p_set {x : Str} {p : Pos} {i : Nat} {e : E} {a : Expr} {pos : Pos} (O : XOkS call fs N X) (hi : N[i]? = some x) (hl : locB X.env.scope x = true) (h : chk N fs X.env.scope e a = true) : PS X (.Assign [.Name x p] a pos) (tAsg (tE sw call false e) (gName i)) := by
  have hN := O.names
  subst hN
  have sq := swaps_eq (X := X) (a := a) (x := x) (p := p) (l := pos.line) O.kind (chk_comp h)
  cases hs : swapB X.env.scope x p a with
  | false =>
    rw [hs] at sq
    exact ps_set O.nd hi (loc_of hl) ((sE e).pe false X a O.toXOk h) sq (.inl (by rw [O.fnT]))
  | true =>
    rw [hs] at sq
    obtain ⟨elt, gs, scope, lpos, rfl⟩ := swapB_lc hs
    obtain ⟨xe, t, it, c, own, rfl⟩ := chk_lc h
    obtain ⟨p', tg, iter, ifs, scope', pos', ownp, tt, ea, h1, h2, h3, h4, h5, h6, h7, h8, h9⟩ := comp_parts (sE xe) (sI it) (sE c) O.toXOk h
    cases ea
    exact p_comp O.toXOk hi (swapB_lcl hs) sq h1 h2 h3 h4 h5 h6 h7 h8 h9

theorem x_assign {x : Str} {p : Pos} {i : Nat} {o : Bool} {e : E} {a : Expr} {pos : Pos} (O : XOkS call fs N X) (hi : N[i]? = some x) (hl : locB X.env.scope x = true) (h : chk N fs X.env.scope e a = true) (ho : o = true → freshE e = true) :
    PS X (.Assign [.Name x p] a pos) (tS sw (exec call fuel (.assign i o e))) := by
  have q := p_set (sw := sw) (p := p) (pos := pos) O hi hl h
  refine ⟨fun pins s σ H D I ⟨Mu0, H0, Mu, env, src, fl, src', J, e0, k⟩ => q.run pins s σ H D I ?_⟩
  obtain ⟨d, s1, e1, e2⟩ := bnd_some (show bnd (ev call false e env) _ src = _ from e0)
  obtain ⟨env', s2, e3, e4⟩ := bnd_some e2
  obtain ⟨e5, hs⟩ := lft_some e3
  subst hs
  obtain ⟨rfl, rfl⟩ := ret_some e4
  have hil : i < σ.length := by
    rw [I.len, O.names]
    exact (List.getElem?_eq_some_iff.mp hi).1
  refine ⟨Mu, env, src, d, _, J.je, e1, fun v H1 E S R fr => ?_⟩
  obtain ⟨Mu', J', st⟩ := asg_js J E S R.strict (fun h1 h2 => fr (ho h1) h2) e5 hil
  exact k Mu' _ H1 J' st

theorem x_pass {st : Stmt} (h : chkS N fs X.env.scope .pass st = true) : PS X st (tS sw (exec call fuel .pass)) := by
  have go : ∀ D σ H, tS sw (exec call fuel .pass) D σ H → tNext D σ H := fun D σ H ⟨Mu0, H0, Mu, env, src, fl, src', J, e0, k⟩ => by
    obtain ⟨rfl, rfl⟩ := ret_some (show ret (Fl.next env) src = _ from e0)
    exact k Mu σ H J Stp.refl
  unfold chkS at h
  split at h
  · exact ps_imp ps_pass go
  · exact ps_imp ps_doc go
  · cases h

theorem fm_short {α β : Type} (f : α → Option β) : ∀ {l : List α}, l.any (fun t => (f t).isNone) = true → (l.filterMap f).length < l.length
  | t :: l, h => by
    rw [List.any_cons, Bool.or_eq_true] at h
    have le : (l.filterMap f).length ≤ l.length := List.length_filterMap_le _ _
    cases e : f t with
    | none =>
      rw [List.filterMap_cons_none e, List.length_cons]
      omega
    | some b =>
      rw [e] at h
      have := fm_short f (h.resolve_left (by simp))
      rw [List.filterMap_cons_some e, List.length_cons, List.length_cons]
      omega
theorem no_swap {es vs : List Expr} {kk k2 : Nat} {tp vp : Pos} (h : noLocal X.env.scope (.Tuple es kk tp) = true) : swappedStores [.Tuple es kk tp] (.Tuple vs k2 vp) X.env = pure none := by
  have key : ∀ line : Nat, (es.filterMap fun e => match e with | .Name id pos => if (X.env.kindOf id == some .local && pos.line == line) = true then some id else none | _ => none).length < es.length := fun line => fm_short _ (by
    refine List.any_eq_true.mpr ?_
    obtain ⟨t, ht, hn⟩ := List.any_eq_true.mp (show (es.any fun t => match t with | .Name x _ => !lclB X.env.scope x | _ => true) = true from h)
    refine ⟨t, ht, ?_⟩
    cases t <;> first
      | rfl
      | (rename_i x p
         have hx : lclB X.env.scope x = false := by simpa using hn
         have : X.env.kindOf x ≠ some .local := fun z => by
           unfold lclB at hx
           rw [show X.env.scope.names.lookup x = some .local from z] at hx
           cases hx
         simp [this]))
  unfold swappedStores
  simp only [bne_iff_ne, ne_eq]
  split
  · rfl
  · split
    · rfl
    · rw [if_pos]
      rw [Bool.or_eq_true]
      refine .inl ?_
      have := Nat.ne_of_lt (key ((es.head?.map (·.pos.line)).getD 0))
      first
        | exact decide_eq_true this
        | exact bne_iff_ne.mpr this
        | exact this
theorem x_unpack {t : T} {e : E} {tg a : Expr} {pos : Pos} (O : XOkS call fs N X) (h1 : isTupE tg = true) (h2 : chkT N X.env.scope (fun _ => true) t tg = true) (h3 : chk N fs X.env.scope e a = true) (h4 : (!(isTupE a) || noLocal X.env.scope tg) = true) (h5 : compB a = false) : PS X (.Assign [tg] a pos) (tS sw (exec call fuel (.unpack t e))) := by
  obtain ⟨es, kk, tp, rfl⟩ := isTupE_of h1
  have hs : swapsWithSole [.Tuple es kk tp] a pos.line X.env = pure false := by
    cases a <;> first | rfl | cases h5
  have hw : swappedStores [.Tuple es kk tp] a X.env = pure none := by
    cases ha : isTupE a with
    | false => cases a <;> first | rfl | cases ha
    | true =>
      rw [ha] at h4
      obtain ⟨vs, k2, vp, rfl⟩ := isTupE_of ha
      exact no_swap h4
  have q := ps_asg ((sE (sw := sw) e).pe false X a O.toXOk h3) (pg_t (sw := sw) O.names O.nd O.calm rfl O.fnT t _ h2) hs hw rfl
  refine ⟨fun pins s σ H D I ⟨Mu0, H0, Mu, env, src, fl, src', J, e0, k⟩ => q.run pins s σ H D I ?_⟩
  obtain ⟨d, s1, e1, e2⟩ := bnd_some (show bnd (ev call false e env) _ src = _ from e0)
  obtain ⟨env', s2, e3, e4⟩ := bnd_some e2
  obtain ⟨e5, hs'⟩ := lft_some e3
  subst hs'
  obtain ⟨rfl, rfl⟩ := ret_some e4
  refine ⟨Mu, env, src, d, _, J.je, e1, fun v H1 E S R fr => ?_⟩
  have J1 := J.ext' E S
  refine ⟨Mu, env, _, d, env', R.strict, J1.je, e5, fun σ' J2 l2 n2 => ?_⟩
  refine k Mu σ' H1 ?_ (Stp.of_ext E J.je.swm J.je.src S)
  -- owned slots are those of before, but the target's names
  have own : ∀ (j : Nat) d', env'[j]? = some (.own d') → env[j]? = some (.own d') ∧ σ'[j]? = σ[j]? := by
    intro j d' hj
    obtain ⟨q1, q2⟩ := bindT_own t d env env' e5 j d' hj
    exact ⟨q1, n2 j q2⟩
  refine ⟨J2, J1.dom0, J1.sub, J1.ext, fun j d' hj b hb => ?_, fun j l d1 d2 b hjl g1 g2 g3 => ?_⟩
  · obtain ⟨q1, q2⟩ := own j d' hj
    rw [q2] at hb
    exact J1.own j d' q1 b hb
  · obtain ⟨q1, q2⟩ := own j d1 g1
    obtain ⟨q3, q4⟩ := own l d2 g2
    rw [q2] at g3
    rw [q4]
    exact J1.uniq j l d1 d2 b hjl q1 q3 g3
end
end Mp

/-! L3p: pop, append, extend, stores, several at once. -/
namespace Mp
open PySem L2 PyProof.Rows PySem.W

section
variable {X : Cx} {sw : Sw} {call : Call} {fs : List String} {N : List Str} {fuel : Nat}

theorem own_slot {Mu0 Mu : Addr → Prop} {H0 H : Hp} {env : Ev} {σ : L2.St} {s : Src} {x : Nat} {d : D} (J : JS sw Mu0 H0 Mu env σ H s) (h : ownAt env x = some d) : env[x]? = some (.own d) ∧ ∃ a, σ[x]? = some (some (.ref a)) ∧ Mu a ∧ offS sw a ∧ Own Mu H a d ∧ NoF H a := by
  unfold ownAt at h
  split at h
  · rename_i d' hx
    obtain rfl := Option.some.inj h
    obtain ⟨a, h1, h2, h3, h4⟩ := J.je.slot x _ hx
    exact ⟨hx, a, h1, h2, h3, h4, (J.own x d' hx a h1).2⟩
  · cases h
theorem own_lst {Mu : Addr → Prop} {H : Hp} {a : Addr} {ds : List D} (h : Own Mu H a (.list ds)) : ∃ xs, H a = some (.lst xs) ∧ RepAll Mu H xs ds := by
  cases h with
  | lst h1 h2 => exact ⟨_, h1, h2⟩
/-- what stands at an owned list, after a write -/
theorem own_upd {Mu : Addr → Prop} {H : Hp} {a : Addr} {xs ys : List V} {ds : List D} (m : Mu a) (h : H a = some (.lst xs)) (r : RepAll Mu H ys ds) : Own Mu (upd H a (.lst ys)) a (.list ds) := by
  refine .lst upd_same (RepAll.keeps ?_ r)
  have ne : ∀ b, ¬ Mu b → b ≠ a := fun b hb z => hb (z ▸ m)
  have rd : ∀ b u, ¬ Mu b → Rd H b u → Rd (upd H a (.lst ys)) b u := fun b u hb r => r.elim (fun r => .inl (by rw [upd_ne (ne b hb)]; exact r)) fun ⟨o, r⟩ => .inr ⟨o, by rw [upd_ne (ne b hb)]; exact r⟩
  refine ⟨fun b u hb r => ⟨hb, by rw [upd_ne (ne b hb)]; exact r⟩, fun b u hb r => ⟨hb, rd b _ hb r⟩, fun b u hb r => ⟨hb, rd b _ hb r⟩, fun b u hb => ?_⟩
  rw [upd_ne (fun z => by rw [z, h] at hb; cases hb)]
  exact hb

theorem x_append {x : Nat} {m : Mu} {e : E} {l a : Expr} {ap cp pos : Pos} {f : Str} (O : XOkS call fs N X) (hm : (match m with | .append => f == sN "append" | .extend => f == sN "extend" | _ => false) = true) (hs : slotIs N X.env.scope x l = true) (he : chk N fs X.env.scope e a = true)
    (hst : starredB a = false) (hl : (ap.endLine == cp.line) = true) : PS X (.Expr (.Call (.Attribute l f ap) [a] [] cp) pos) (tS sw (exec call fuel (.mut m x e))) := by
  obtain ⟨nm, p, rfl, x1, x2, x3, x4⟩ := slotIs_of hs
  have hN := O.names
  subst hN
  have pa : PA X [a] (tCons (tE sw call false e) tNil) := pa_cons ((sE e).pe false X a O.toXOk he) pa_nil (star_head hst)
  have few : ((backTo cp (starEach [a] X.env)).all (fun x => !x.1) && (backToKw cp (keywordEach [] X.env)).all (fun x => x.1.isSome) && decide (([a] : List Expr).length + ([] : List Keyword).length + (if ([] : List Keyword).isEmpty then 0 else 1) < 30)) = true := by
    rw [star_head hst]; rfl
  refine ⟨fun pins s σ H D I ⟨Mu0, H0, Mu, env, src, fl, src', J, e0, k⟩ => ?_⟩
  obtain ⟨d, s1, e1, e2⟩ := bnd_some (show bnd (ev call false e env) _ src = _ from e0)
  cases ho : ownAt env x with
  | none =>
    simp only [ho] at e2
    exact (stuck_some e2).elim
  | some d0 =>
    simp only [ho] at e2
    obtain ⟨d1, s2, e3, e4⟩ := bnd_some e2
    obtain ⟨e5, hss⟩ := lft_some e3
    subst hss
    obtain ⟨rfl, rfl⟩ := ret_some e4
    obtain ⟨hx, b, hσ, mb, offb, ob, nfb⟩ := own_slot J ho
    cases m with
    | append =>
      obtain rfl := eq_of_beq hm
      cases d0 with
      | list xs =>
        have e5' : (if xs.length < lim then some (PyData.list (xs ++ [d])) else none) = some d1 := e5
        split at e5'
        · rename_i hlt
          obtain rfl := Option.some.inj e5'
          obtain ⟨vs, hb, rb⟩ := own_lst ob
          have q := ps_expr (pos := pos) (pe_bm PySem.F.plainAttrs_list PySem.F.slot_list_append PySem.F.type_list_append mt_append (pe_var (pos := p) (i := x) x1 x2 x3 x4) pa (base_of rfl) few hl (star_head hst) rfl) rfl
          refine q.run pins s σ H D I ⟨.ref b, hσ, .inl ⟨rfl, vs, SqL.of hb⟩, Mu, env, src, d, _, J.je, e1, fun v H1 E S R fr => ?_⟩
          have J1 := J.ext' E S
          have hb1 := E b _ hb offb
          have rb1 : RepAll Mu H1 vs xs := RepAll.keeps (E.keeps J.je.swm J.je.src) rb
          refine ⟨b, vs, v, rfl, rfl, hb1, by rw [rb.length, ← lim_eq]; exact hlt, ?_⟩
          obtain ⟨J2, st⟩ := J1.mut (o' := .lst (vs ++ [v])) (d' := .list (xs ++ [d])) hx hσ hb1 (by simp) (own_upd mb hb1 (rb1.append (.cons R.strict .nil))) (by simp)
          exact k Mu σ _ J2 ((Stp.of_ext E J.je.swm J.je.src S).trans J1.je.dom st)
        · cases e5'
      | _ => cases e5
    | extend =>
      obtain rfl := eq_of_beq hm
      cases d0 with
      | list xs =>
        cases d with
        | list ys =>
          have e5' : (if xs.length + ys.length ≤ lim then some (PyData.list (xs ++ ys)) else none) = some d1 := e5
          split at e5'
          · rename_i hlt
            obtain rfl := Option.some.inj e5'
            obtain ⟨vs, hb, rb⟩ := own_lst ob
            have q := ps_expr (pos := pos) (pe_bm PySem.F.plainAttrs_list PySem.F.slot_list_extend PySem.F.type_list_extend mt_extend (pe_var (pos := p) (i := x) x1 x2 x3 x4) pa (base_of rfl) few hl (star_head hst) rfl) rfl
            refine q.run pins s σ H D I ⟨.ref b, hσ, .inl ⟨rfl, vs, SqL.of hb⟩, Mu, env, src, _, _, J.je, e1, fun v H1 E S R fr => ?_⟩
            have J1 := J.ext' E S
            have hb1 := E b _ hb offb
            have rb1 : RepAll Mu H1 vs xs := RepAll.keeps (E.keeps J.je.swm J.je.src) rb
            obtain ⟨c, ws, rfl, hc, rc⟩ := R.list
            refine ⟨b, c, vs, ws, rfl, rfl, hb1, hc, by rw [rb.length, rc.length, ← lim_eq]; exact hlt, ?_⟩
            obtain ⟨J2, st⟩ := J1.mut (o' := .lst (vs ++ ws)) (d' := .list (xs ++ ys)) hx hσ hb1 (by simp) (own_upd mb hb1 (rb1.append rc)) (by simp)
            exact k Mu σ _ J2 ((Stp.of_ext E J.je.swm J.je.src S).trans J1.je.dom st)
          · cases e5'
        | _ => cases e5
      | _ => cases e5
    | update => cases hm
    | remove => cases hm

theorem x_pop {x i : Nat} {l : Expr} {y : Str} {ap cp p0 pos : Pos} (O : XOkS call fs N X) (hi : N[i]? = some y) (hly : locB X.env.scope y = true) (hs : slotIs N X.env.scope x l = true) (hl : (ap.endLine == cp.line) = true) (hne : i ≠ x) :
    PS X (.Assign [.Name y p0] (.Call (.Attribute l "pop" ap) [] [] cp) pos) (tS sw (exec call fuel (.pop (some i) x none))) := by
  obtain ⟨nm, p, rfl, x1, x2, x3, x4⟩ := slotIs_of hs
  have hN := O.names
  subst hN
  have q := ps_set (pos := pos) (pos' := p0) O.nd hi (loc_of hly) (pe_bm0 PySem.F.plainAttrs_list PySem.F.slot_list_pop PySem.F.type_list_pop mt_pop (pe_var (pos := p) (i := x) x1 x2 x3 x4) (base_of rfl) hl) rfl (.inl (by rw [O.fnT]))
  refine ⟨fun pins s σ H D I ⟨Mu0, H0, Mu, env, src, fl, src', J, e0, k⟩ => ?_⟩
  unfold exec at e0
  obtain ⟨kk, s1, e1, e2⟩ := bnd_some e0
  obtain ⟨ek, hss⟩ := ret_some e1
  subst hss
  subst ek
  cases ho : ownAt env x with
  | none =>
    simp only [ho] at e2
    exact (stuck_some e2).elim
  | some d0 =>
    simp only [ho] at e2
    cases d0 with
    | list xs =>
      obtain ⟨pr, s2, e3, e4⟩ := bnd_some (show bnd (lft (popD xs none)) _ s1 = _ from e2)
      obtain ⟨e5, hss⟩ := lft_some e3
      subst hss
      obtain ⟨efl, hss⟩ := ret_some e4
      subst hss
      obtain ⟨dy, hdy, rfl⟩ := Option.map_eq_some_iff.mp (show (xs.getLast?).map (fun y => (y, xs.dropLast)) = some pr from e5)
      have efl' : fl = .next ((env.set x (.own (.list xs.dropLast))).set i (.frz dy)) := efl
      subst efl'
      obtain ⟨hx, b, hσ, mb, offb, ob, nfb⟩ := own_slot J ho
      obtain ⟨vs, hb, rb⟩ := own_lst ob
      have hdy' : xs[xs.length - 1]? = some dy := by rw [← List.getLast?_eq_getElem?]; exact hdy
      obtain ⟨v, hv, rv⟩ := rb.get hdy'
      refine q.run pins s σ H D I ⟨.ref b, hσ, .inl ⟨rfl, vs, SqL.of hb⟩, b, vs, v, rfl, rfl, hb, by rw [rb.length]; exact hv, ?_⟩
      obtain ⟨J2, st⟩ := J.mut (o' := .lst vs.dropLast) (d' := .list xs.dropLast) hx hσ hb (by simp) (own_upd mb hb rb.dropLast) (by simp)
      have hil : i < σ.length := by
        rw [I.len]
        exact (List.getElem?_eq_some_iff.mp hi).1
      exact k Mu _ _ (J2.setF i hil (rv.keeps st.keeps)) st
    | _ => exact (stuck_some (show stuck s1 = _ from e2)).elim

theorem seqIx_of {n : Nat} {i : Int} {j : Nat} (h : ixNat n i = some j) : seqIndex? i n = some j := by
  unfold ixNat at h
  unfold seqIndex?
  split at h
  · split at h
    · rename_i h1 h2
      obtain rfl := Option.some.inj h
      have e : (if i < 0 then i + (n : Int) else i) = i := if_neg (by omega)
      simp only [e]
      rw [if_pos (by simp [h1, h2])]
    · cases h
  · split at h
    · rename_i h1 h2
      obtain rfl := Option.some.inj h
      have e : (if i < 0 then i + (n : Int) else i) = i + n := if_pos (by omega)
      simp only [e]
      rw [if_pos (by rw [Bool.and_eq_true, decide_eq_true_eq, decide_eq_true_eq]; omega)]
    · cases h
theorem x_popAt {x i : Nat} {e : E} {l a : Expr} {y : Str} {ap cp p0 pos : Pos} (O : XOkS call fs N X) (hi : N[i]? = some y) (hly : locB X.env.scope y = true) (hs : slotIs N X.env.scope x l = true) (hl : (ap.endLine == cp.line) = true) (hne : i ≠ x) (he : chk N fs X.env.scope e a = true) (hst : starredB a = false) :
    PS X (.Assign [.Name y p0] (.Call (.Attribute l "pop" ap) [a] [] cp) pos) (tS sw (exec call fuel (.pop (some i) x (some e)))) := by
  obtain ⟨nm, p, rfl, x1, x2, x3, x4⟩ := slotIs_of hs
  have hN := O.names
  subst hN
  have pa : PA X [a] (tCons (tE sw call false e) tNil) := pa_cons ((sE e).pe false X a O.toXOk he) pa_nil (star_head hst)
  have few : ((backTo cp (starEach [a] X.env)).all (fun x => !x.1) && (backToKw cp (keywordEach [] X.env)).all (fun x => x.1.isSome) && decide (([a] : List Expr).length + ([] : List Keyword).length + (if ([] : List Keyword).isEmpty then 0 else 1) < 30)) = true := by
    rw [star_head hst]; rfl
  have q := ps_set (pos := pos) (pos' := p0) O.nd hi (loc_of hly) (pe_bm PySem.F.plainAttrs_list PySem.F.slot_list_pop PySem.F.type_list_pop mt_popAt (pe_var (pos := p) (i := x) x1 x2 x3 x4) pa (base_of rfl) few hl (star_head hst) rfl) rfl (.inl (by rw [O.fnT]))
  refine ⟨fun pins s σ H D I ⟨Mu0, H0, Mu, env, src, fl, src', J, e0, k⟩ => ?_⟩
  unfold exec at e0
  obtain ⟨kk, s1, e1, e2⟩ := bnd_some e0
  obtain ⟨dk, s0, e1a, e1b⟩ := bnd_some (show bnd (ev call false e env) _ src = _ from e1)
  cases dk with
  | int n =>
    obtain ⟨ek, hss⟩ := ret_some (show ret (some n) s0 = _ from e1b)
    subst hss
    subst ek
    cases ho : ownAt env x with
    | none =>
      simp only [ho] at e2
      exact (stuck_some e2).elim
    | some d0 =>
      simp only [ho] at e2
      cases d0 with
      | list xs =>
        obtain ⟨pr, s2, e3, e4⟩ := bnd_some (show bnd (lft (popD xs (some n))) _ s1 = _ from e2)
        obtain ⟨e5, hss⟩ := lft_some e3
        subst hss
        obtain ⟨efl, hss⟩ := ret_some e4
        subst hss
        have e5' : (if rangeOk n then (ixNat xs.length n).bind fun j => (xs[j]?).map fun y => (y, xs.eraseIdx j) else none) = some pr := e5
        split at e5'
        · rename_i hr
          obtain ⟨r1, r2⟩ : -(2 ^ 62) ≤ n ∧ n < 2 ^ 62 := of_decide_eq_true hr
          obtain ⟨j, hj, e6⟩ := Option.bind_eq_some_iff.mp e5'
          obtain ⟨dy, hdy, rfl⟩ := Option.map_eq_some_iff.mp e6
          have efl' : fl = .next ((env.set x (.own (.list (xs.eraseIdx j)))).set i (.frz dy)) := efl
          subst efl'
          obtain ⟨hx, b, hσ, mb, offb, ob, nfb⟩ := own_slot J ho
          refine q.run pins s σ H D I ⟨.ref b, hσ, .inl ⟨rfl, (own_lst ob).elim fun vs h => ⟨vs, SqL.of h.1⟩⟩, Mu, env, src, _, _, J.je, e1a, fun v H1 E S R fr => ?_⟩
          have J1 := J.ext' E S
          obtain ⟨hx1, b1, hσ1, mb1, offb1, ob1, nfb1⟩ := own_slot J1 ho
          rw [hσ] at hσ1
          cases hσ1
          obtain ⟨vs, hb, rb⟩ := own_lst ob1
          obtain ⟨w, hw, rw'⟩ := rb.get hdy
          obtain rfl := R.int
          refine ⟨b, vs, n, j, w, rfl, rfl, hb, by omega, by omega, by rw [rb.length]; exact seqIx_of hj, hw, ?_⟩
          obtain ⟨J2, st⟩ := J1.mut (o' := .lst (vs.eraseIdx j)) (d' := .list (xs.eraseIdx j)) hx hσ hb (by simp) (own_upd mb hb (rb.erase j)) (by simp)
          have hil : i < σ.length := by
            rw [I.len]
            exact (List.getElem?_eq_some_iff.mp hi).1
          exact k Mu _ _ (J2.setF i hil (rw'.keeps st.keeps)) ((Stp.of_ext E J.je.swm J.je.src S).trans J1.je.dom st)
        · cases e5'
      | _ => exact (stuck_some (show stuck s1 = _ from e2)).elim
  | _ => exact (stuck_some (show stuck s0 = _ from e1b)).elim

/-! ### a store into an owned dict -/
theorem inv_ghost {pins : List (Addr × Obj)} {σ : L2.St} {H : Hp} {s : Shared} {a : Addr} (I : Inv X pins σ H s) (h : H a = some (.dK [])) : Inv X pins σ (upd H a (.dT [])) s := by
  obtain ⟨z, hd, vs, rel, dd⟩ := dk_of I.hok h
  have ev : vs = [] := List.length_eq_zero_iff.mp (by rw [← Paired.length rel]; rfl)
  subst ev
  obtain ⟨o, es, ep, h1, h2, h3, _, h4, _⟩ := dd
  have he : es.toList = [] := by
    have := h4.length
    exact List.length_eq_zero_iff.mp (by simpa using this)
  have new : ObjOk X.prog X.w (upd H a (.dT [])) s.heap a (.dT []) := ⟨Nat.zero_le _, hd, [], .nil, o, es, ep, h1, h2, h3, by rw [he]; rfl, .nil⟩
  exact I.write (x := a) (e := a) (t' := s.toks) (h' := s.heap) (by rw [h]; exact True.intro) (.inl rfl) (fun b v _ q => q) ⟨o, h1⟩ new
theorem ixN_of {n : Nat} {i : Int} {j : Nat} (h : ixNat n i = some j) : ixN n i = some j := by
  unfold ixNat at h
  unfold ixN
  split at h
  · split at h
    · rename_i h1 h2
      rw [if_pos h1, if_pos h2]
      exact h
    · cases h
  · split at h
    · rename_i h1 h2
      rw [if_neg h1, if_pos h2]
      exact h
    · cases h
theorem x_set {x : Nat} {kE vE : E} {l i a : Expr} {sp pos : Pos} (O : XOkS call fs N X) (hs : slotIs N X.env.scope x l = true) (hk : chk N fs X.env.scope kE i = true) (hv : chk N fs X.env.scope vE a = true) :
    PS X (.Assign [.Subscript l i sp] a pos) (tS sw (exec call fuel (.setItem x kE vE))) := by
  obtain ⟨nm, p, rfl, x1, x2, x3, x4⟩ := slotIs_of hs
  have hN := O.names
  subst hN
  have qv := (sE (sw := sw) vE).pe false X a O.toXOk hv
  have qk := (sE (sw := sw) kE).pe false X i O.toXOk hk
  have ql := pe_var (X := X) (pos := p) (i := x) x1 x2 x3 x4
  have hsw : swapsWith a (some (.Subscript (.Name nm p) i sp)) pos.line X.env = pure false := by cases a <;> rfl
  refine ⟨fun pins s σ H D I ⟨Mu0, H0, Mu, env, src, fl, src', J, e0, k⟩ => ?_⟩
  obtain ⟨vd, s1, e1, e2⟩ := bnd_some (show bnd (ev call false vE env) _ src = _ from e0)
  obtain ⟨kd, s2, e3, e4⟩ := bnd_some e2
  cases ho : ownAt env x with
  | none =>
    simp only [ho] at e4
    exact (stuck_some e4).elim
  | some d0 =>
    simp only [ho] at e4
    cases d0 with
    | dict kvs =>
      have e4' : (if (keyFits kvs kd && decide (kvs.length < lim)) = true then ret (Fl.next (env.set x (.own (.dict (dput kvs kd vd))))) else stuck) s2 = some (fl, src') := e4
      split at e4'
      · rename_i hc
        rw [Bool.and_eq_true, decide_eq_true_eq, lim_eq] at hc
        obtain ⟨efl, hss⟩ := ret_some e4'
        subst hss efl
        obtain ⟨hx, b, hσ, mb, offb, ob, nfb⟩ := own_slot J ho
        refine wpAny_Assign_Subscript (thn (qv.run pins s σ H (fun v H1 => ExtS sw H H1 ∧ SrcOk sw H1 s1 ∧ Rep Mu H1 v vd) I ⟨Mu, env, src, vd, s1, J.je, e1, fun v H1 E S R _ => ⟨E, S, R.strict⟩⟩) fun r t1 ⟨v, H1, I1, rv, E1, S1, R1⟩ => ?_) hsw
        have J1 := J.ext' E1 S1
        refine thn (ql.run pins t1 σ H1 (fun w H2 => w = .ref b ∧ H2 = H1) I1 ⟨.ref b, hσ, rfl, rfl⟩) fun u t2 ⟨w, H2, I2, rw2, ew, eH⟩ => ?_
        subst ew eH
        obtain rfl : u = Value.ref b := rw2
        refine thn (qk.run pins t2 σ H2 (fun y H3 => ExtS sw H2 H3 ∧ SrcOk sw H3 src' ∧ Rep Mu H3 y kd) I2 ⟨Mu, env, s1, kd, src', J1.je, e3, fun y H3 E S R _ => ⟨E, S, R.strict⟩⟩) fun iv t3 ⟨y, H3, I3, ry, E3, S3, R3⟩ => ?_
        have J3 := J1.ext' E3 S3
        have Rv : Rep Mu H3 v vd := R1.keeps (E3.keeps J1.je.swm J1.je.src)
        obtain ⟨hx3, b', hσ3, _, _, ob3, nf3⟩ := own_slot J3 ho
        rw [hσ] at hσ3
        cases hσ3
        have EE := E1.trans E3
        -- the store itself
        have fin : ∀ (H4 : Hp) (o' : HO), H4 = upd H3 b o' → (∀ xs, H3 b ≠ some (.tup xs)) → H3 b ≠ none → Own Mu H4 b (.dict (dput kvs kd vd)) → (∀ o w, o' ≠ .frz o w) → D.nx σ H4 := fun H4 o' e4 nt nn ho4 nf4 => by
          subst e4
          cases hq : H3 b with
          | none => exact absurd hq nn
          | some u =>
            obtain ⟨J4, st⟩ := J3.mut (u := u) (o' := o') hx3 hσ hq (fun xs z => nt xs (by rw [hq, z])) ho4 nf4
            exact k Mu σ _ J4 ((Stp.of_ext EE J.je.swm J.je.src S3).trans (J3.je.dom) st)
        have ne : ∀ c, ¬ Mu c → c ≠ b := fun c hc z => hc (z ▸ mb)
        have kpU : ∀ o', (∀ xs, H3 b ≠ some (.tup xs)) → Keeps Mu H3 Mu (upd H3 b o') := fun o' nt => by
          have rd : ∀ c u, ¬ Mu c → Rd H3 c u → Rd (upd H3 b o') c u := fun c u hc r => r.elim (fun r => .inl (by rw [upd_ne (ne c hc)]; exact r)) fun ⟨o, r⟩ => .inr ⟨o, by rw [upd_ne (ne c hc)]; exact r⟩
          refine ⟨fun c u hc r => ⟨hc, by rw [upd_ne (ne c hc)]; exact r⟩, fun c u hc r => ⟨hc, rd c _ hc r⟩, fun c u hc r => ⟨hc, rd c _ hc r⟩, fun c u hc => ?_⟩
          rw [upd_ne (fun z => by rw [z] at hc; exact nt _ hc)]
          exact hc
        have fit := hc.1
        rcases key_cases (RepB.of (b := true) (sw := sw) R3) (keyFits_ok fit) with ⟨ck, ek, ey⟩ | ⟨cs, c, ek, ey, hcc⟩
        · -- a key that is a number, a text
          subst ek ey
          cases ob3 with
          | @dK ks _ hr rk =>
            have hb : H3 b = some (.dK ks) := by
              rcases hr with hr | ⟨o, hr⟩
              · exact hr
              · exact absurd hr (nf3 _ _)
            have nt : ∀ xs, H3 b ≠ some (.tup xs) := fun xs z => by rw [hb] at z; cases z
            refine d_setItem (by have := O.units; omega) I3 (DPut.k (k := ck) (v := v) hb (by rw [rk.length]; exact hc.2)) ry rv fun t4 I4 => ⟨σ, _, I4, fin _ _ rfl nt (by rw [hb]; simp) (.dK (.inl upd_same) (RepK.keeps (kpU _ nt) (rk.put ck Rv))) (by simp)⟩
          | @dT ks _ h0 hr rk =>
            cases rk with
            | nil => exact absurd rfl h0
            | cons _ _ =>
              have z := fit
              unfold keyFits at z
              rw [Bool.and_eq_true, List.all_cons, Bool.and_eq_true, beq_iff_eq] at z
              have z2 := z.2.1
              rw [isTup_keyD] at z2
              cases z2
        · subst ek ey
          cases ob3 with
          | @dK ks _ hr rk =>
            have hb : H3 b = some (.dK ks) := by
              rcases hr with hr | ⟨o, hr⟩
              · exact hr
              · exact absurd hr (nf3 _ _)
            have nt : ∀ xs, H3 b ≠ some (.tup xs) := fun xs z => by rw [hb] at z; cases z
            cases rk with
            | nil =>
              have I3' := inv_ghost I3 hb
              have hcb : c ≠ b := fun z => by rw [z, hb] at hcc; cases hcc
              refine d_setItem (by have := O.units; omega) I3' (DPut.t (k := cs) (v := v) upd_same (by rw [upd_ne hcb]; exact hcc) (Nat.lt_of_le_of_lt (Nat.zero_le _) hc.2)) ry rv fun t4 I4 => ?_
              have eH : upd (upd H3 b (.dT [])) b (.dT (putK [] cs v)) = upd H3 b (.dT (putK [] cs v)) := by
                funext q
                by_cases e : q = b
                · subst e; rw [upd_same, upd_same]
                · rw [upd_ne e, upd_ne e, upd_ne e]
              rw [eH] at I4
              exact ⟨σ, _, I4, fin _ _ rfl nt (by rw [hb]; simp) (.dT (dput_ne _ _ _) (.inl upd_same) (RepT.keeps (kpU _ nt) (RepT.put (ks := []) (ds := []) .nil cs Rv))) (by simp)⟩
            | cons _ _ =>
              have z := fit
              unfold keyFits at z
              rw [Bool.and_eq_true, List.all_cons, Bool.and_eq_true, beq_iff_eq] at z
              have z2 := z.2.1
              rw [isTup_keyD] at z2
              cases z2
          | @dT ks _ h0 hr rk =>
            have hb : H3 b = some (.dT ks) := by
              rcases hr with hr | ⟨o, hr⟩
              · exact hr
              · exact absurd hr (nf3 _ _)
            have nt : ∀ xs, H3 b ≠ some (.tup xs) := fun xs z => by rw [hb] at z; cases z
            refine d_setItem (by have := O.units; omega) I3 (DPut.t (k := cs) (v := v) hb hcc (by rw [rk.length]; exact hc.2)) ry rv fun t4 I4 => ⟨σ, _, I4, fin _ _ rfl nt (by rw [hb]; simp) (.dT (dput_ne _ _ _) (.inl upd_same) (RepT.keeps (kpU _ nt) (rk.put cs Rv))) (by simp)⟩
      · exact (stuck_some e4').elim
    | list xs =>
      cases kd with
      | int n =>
        obtain ⟨j, s3, e5, e6⟩ := bnd_some (show bnd (lft (ixNat xs.length n)) _ s2 = _ from e4)
        obtain ⟨e7, hss⟩ := lft_some e5
        subst hss
        obtain ⟨efl, hss⟩ := ret_some e6
        subst hss
        subst efl
        obtain ⟨hx, b, hσ, mb, offb, ob, nfb⟩ := own_slot J ho
        refine wpAny_Assign_Subscript (thn (qv.run pins s σ H (fun v H1 => ExtS sw H H1 ∧ SrcOk sw H1 s1 ∧ Rep Mu H1 v vd) I ⟨Mu, env, src, vd, s1, J.je, e1, fun v H1 E S R _ => ⟨E, S, R.strict⟩⟩) fun r t1 ⟨v, H1, I1, rv, E1, S1, R1⟩ => ?_) hsw
        have J1 := J.ext' E1 S1
        refine thn (ql.run pins t1 σ H1 (fun w H2 => w = .ref b ∧ H2 = H1) I1 ⟨.ref b, hσ, rfl, rfl⟩) fun u t2 ⟨w, H2, I2, rw2, ew, eH⟩ => ?_
        subst ew eH
        refine thn (qk.run pins t2 σ H2 (fun y H3 => ExtS sw H2 H3 ∧ SrcOk sw H3 _ ∧ Rep Mu H3 y (.int n)) I2 ⟨Mu, env, s1, _, _, J1.je, e3, fun y H3 E S R _ => ⟨E, S, R.strict⟩⟩) fun iv t3 ⟨y, H3, I3, ry, E3, S3, R3⟩ => ?_
        have J3 := J1.ext' E3 S3
        have Rv : Rep Mu H3 v vd := R1.keeps (E3.keeps J1.je.swm J1.je.src)
        obtain ⟨hx3, b', hσ3, _, _, ob3, nf3⟩ := own_slot J3 ho
        rw [hσ] at hσ3
        cases hσ3
        cases R3
        obtain ⟨vs, hb, rb⟩ := own_lst ob3
        obtain ⟨J4, st⟩ := J3.mut (o' := .lst (vs.set j v)) (d' := .list (xs.set j vd)) hx3 hσ hb (by simp) (own_upd mb hb (RepAll.set Rv j rb)) (by simp)
        refine thn (set_list pins t3 σ H3 (.ref b) (.int n) v _ _ _ (fun H4 => D.nx σ H4) I3 rw2 ry rv ⟨b, vs, n, j, rfl, rfl, hb, ixN_of (by rw [rb.length]; exact e7), ?_⟩) fun _ t4 ⟨H4, I4, q4⟩ => ⟨σ, H4, I4, q4⟩
        exact k Mu σ _ J4 ((Stp.of_ext (E1.trans E3) J.je.swm J.je.src S3).trans J3.je.dom st)
      | _ => exact (stuck_some (show stuck s2 = _ from e4)).elim
    | _ => exact (stuck_some (show stuck s2 = _ from e4)).elim
end
end Mp

/-! L3q: several names at once. -/
namespace Mp
open PySem L2 PyProof.Rows PySem.W

/-- new values that wait to be stored: the owned ones apart -/
inductive Pends (sw : Sw) (Mu : Addr → Prop) (H H0 : Hp) (env : Ev) (σ : L2.St) : List Bool → List V → List D → Prop
  | nil : Pends sw Mu H H0 env σ [] [] []
  | no {v : V} {d : D} {os : List Bool} {vs : List V} {ds : List D} : Rep Mu H v d → Pends sw Mu H H0 env σ os vs ds → Pends sw Mu H H0 env σ (false :: os) (v :: vs) (d :: ds)
  | yes {a : Addr} {d : D} {os : List Bool} {vs : List V} {ds : List D} : Mu a → offS sw a → Own Mu H a d → H0 a = none → NoF H a → isSeqOrDict d = true → (∀ (j : Nat) (d' : D), env[j]? = some (.own d') → σ[j]? ≠ some (some (.ref a))) →
      (∀ p ∈ os.zip vs, p.1 = true → p.2 ≠ .ref a) → Pends sw Mu H H0 env σ os vs ds → Pends sw Mu H H0 env σ (true :: os) (.ref a :: vs) (d :: ds)
def tSeqE (sw : Sw) (call : Call) : Es → TA
  | .nil => tNil
  | .cons e r => tCons (tE sw call false e) (tSeqE sw call r)
  | .star _ _ => fun _ _ _ => False
def setAll (σ : L2.St) : List Nat → List V → L2.St
  | i :: is, v :: vs => setAll (σ.set i (some v)) is vs
  | _, _ => σ
def freshOk : List Bool → Es → Bool
  | [], .nil => true
  | o :: os, .cons e r => (!o || freshE e) && freshOk os r
  | _, _ => false

section
variable {X : Cx} {sw : Sw} {call : Call} {fs : List String} {N : List Str} {fuel : Nat}
theorem pends_new {Mu : Addr → Prop} {H H0 H' : Hp} {env : Ev} {σ : L2.St} : ∀ {os : List Bool} {vs : List V} {ds : List D}, Pends sw Mu H H0 env σ os vs ds → ∀ a, H' a ≠ none → (∀ p ∈ os.zip vs, p.1 = true → ∀ b, p.2 = .ref b → H' b = none) → ∀ p ∈ os.zip vs, p.1 = true → p.2 ≠ .ref a := fun h a ha q p hp h1 e => ha (q p hp h1 a e)

theorem seq_go {Mu0 : Addr → Prop} {H0 : Hp} {env : Ev} {σ : L2.St} : ∀ {es : Es} {os : List Bool} {Mu : Addr → Prop} {H : Hp} {src : Src} {ds : List D} {src' : Src} {Q : List V → Hp → Prop}, freshOk os es = true → JS sw Mu0 H0 Mu env σ H src → evs call false es env src = some (ds, src') → (os.length = ds.length → ∀ (d : D) (o : Bool) (i : Nat), os[i]? = some o → ds[i]? = some d → o = true → isSeqOrDict d = true) →
    (∀ (vs : List V) (Mu' : Addr → Prop) (H' : Hp), JS sw Mu0 H0 Mu' env σ H' src' → Stp Mu H Mu' H' → ExtS sw H H' → (∀ a, Mu a → Mu' a) → Pends sw Mu' H' H0 env σ os vs ds → (∀ p ∈ os.zip vs, p.1 = true → ∀ b, p.2 = .ref b → H b = none) → Q vs H') → tSeqE sw call es σ H Q
  | .nil, [], Mu, H, src, ds, src', Q, hf, J, e, ht, k => by
    obtain ⟨rfl, rfl⟩ := ret_some (show ret [] src = _ from e)
    exact k [] Mu H J Stp.refl (ExtS.refl sw H) (fun _ h => h) .nil fun p hp => nomatch hp
  | .cons x r, o :: os, Mu, H, src, ds, src', Q, hf, J, e, ht, k => by
    unfold freshOk at hf
    rw [Bool.and_eq_true] at hf
    obtain ⟨d, s1, e1, e2⟩ := bnd_some (show bnd (ev call false x env) _ src = _ from e)
    obtain ⟨ds', s2, e3, e4⟩ := bnd_some e2
    obtain ⟨rfl, hss⟩ := ret_some e4
    subst hss
    refine ⟨Mu, env, src, d, s1, J.je, e1, fun v H1 E1 S1 R1 fr => ?_⟩
    have len : (os.length = ds'.length → ∀ (d : D) (o : Bool) (i : Nat), os[i]? = some o → ds'[i]? = some d → o = true → isSeqOrDict d = true) := fun hl d o i h1 h2 h3 => ht (by rw [List.length_cons, List.length_cons, hl]) d o (i + 1) (by simpa using h1) (by simpa using h2) h3
    cases o with
    | false =>
      have J1 := J.ext' E1 S1
      refine seq_go hf.2 J1 e3 len fun vs Mu' H' J' st E sub P nw => ?_
      refine k (v :: vs) Mu' H' J' ((Stp.of_ext E1 J.je.swm J.je.src S1).trans J1.je.dom st) (E1.trans E) sub (.no (R1.strict.keeps st.keeps) P) ?_
      intro p hp
      rcases List.mem_cons.mp hp with rfl | hp
      · intro z; cases z
      · exact fun h b eb => E1.none_back S1 (nw p hp h b eb)
    | true =>
      have fx : freshE x = true := by simpa using hf.1
      -- the length of what follows
      have hl : os.length = ds'.length := by
        have : ∀ (r : Es) (os : List Bool) (ds : List D) (s s' : Src), freshOk os r = true → evs call false r env s = some (ds, s') → os.length = ds.length := by
          intro r
          induction r using Es.rec (motive_1 := fun _ => True) (motive_3 := fun _ => True) (motive_4 := fun _ => True) with
          | nil =>
            intro os ds s s' h1 h2
            cases os with
            | nil => obtain ⟨rfl, _⟩ := ret_some (show ret [] s = _ from h2); rfl
            | cons _ _ => cases h1
          | cons e r _ ih =>
            intro os ds s s' h1 h2
            cases os with
            | nil => cases h1
            | cons o os =>
              unfold freshOk at h1
              rw [Bool.and_eq_true] at h1
              obtain ⟨d, s1, f1, f2⟩ := bnd_some (show bnd (ev call false e env) _ s = _ from h2)
              obtain ⟨ds', s2, f3, f4⟩ := bnd_some f2
              obtain ⟨rfl, _⟩ := ret_some f4
              rw [List.length_cons, List.length_cons, ih os ds' s1 s2 h1.2 f3]
          | star e r _ _ =>
            intro os ds s s' h1 h2
            cases os <;> cases h1
          | _ => trivial
        exact this r os ds' s1 _ hf.2 e3
      have hd : isSeqOrDict d = true := ht (by rw [List.length_cons, List.length_cons, hl]) d true 0 rfl rfl rfl
      have vref : ∃ a, v = .ref a := by
        have R := R1.strict
        cases R <;> first | exact ⟨_, rfl⟩ | cases hd
      obtain ⟨a, rfl⟩ := vref
      obtain ⟨hn, nf⟩ := fr fx hd a rfl
      have R := R1.strict
      have hne : H1 a ≠ none := by
        cases R with
        | lst _ h _ => rw [h]; simp
        | tup h _ => rw [h]; simp
        | dK _ h _ => rcases h with h | ⟨_, h⟩ <;> (rw [h]; simp)
        | dT _ _ h _ => rcases h with h | ⟨_, h⟩ <;> (rw [h]; simp)
      have offA : offS sw a := fun p hp => ⟨fun z => (src_ne J.je.src hn p hp).1 z.symm, fun z => (src_ne J.je.src hn p hp).2 z.symm⟩
      have J1 := J.plus E1 S1 hn hne
      have st1 := stp_plus (Mu := Mu) E1 J.je.swm J.je.src S1 hn
      have own1 := own_of_rep R hd
      refine seq_go hf.2 J1 e3 len fun vs Mu' H' J' st E sub P nw => ?_
      have dom1 : ∀ b, Mu b → H1 b ≠ none := fun b hb => J1.je.dom b (.inl hb)
      refine k (.ref a :: vs) Mu' H' J' (st1.trans dom1 st) (E1.trans E) (fun b hb => sub b (.inl hb)) (.yes (sub a (.inr rfl)) offA (own1.keeps st.keeps fun u hu => E a u hu offA) (J.ext.none_back J.je.src hn) (fun o u z => ?_) hd (fun j d' hj hσ => ?_) (fun p hp h1 eb => hne (nw p hp h1 a eb)) P) ?_
      · cases q : H1 a with
        | none => exact hne q
        | some w =>
          rw [E a w q offA] at z
          cases z
          exact nf _ _ q
      · obtain ⟨a', q1, q2, _, _⟩ := J.je.slot j _ hj
        rw [hσ] at q1
        cases q1
        exact J.je.dom a q2 hn
      · intro p hp
        rcases List.mem_cons.mp hp with rfl | hp
        · intro _ b eb
          cases eb
          exact hn
        · exact fun h b eb => E1.none_back S1 (nw p hp h b eb)
  | .nil, _ :: _, _, _, _, _, _, _, hf, _, _, _, _ => by cases hf
  | .cons _ _, [], _, _, _, _, _, _, hf, _, _, _, _ => by cases hf
  | .star _ _, [], _, _, _, _, _, _, hf, _, _, _, _ => by cases hf
  | .star _ _, _ :: _, _, _, _, _, _, _, hf, _, _, _, _ => by cases hf

theorem pends_set {Mu : Addr → Prop} {H H0 : Hp} {env env' : Ev} {σ σ' : L2.St} : ∀ {os : List Bool} {vs : List V} {ds : List D}, Pends sw Mu H H0 env σ os vs ds → (∀ a, (true, V.ref a) ∈ os.zip vs → ∀ (j : Nat) (d' : D), env'[j]? = some (.own d') → σ'[j]? ≠ some (some (.ref a))) → Pends sw Mu H H0 env' σ' os vs ds
  | _, _, _, .nil, _ => .nil
  | _, _, _, .no h t, q => .no h (pends_set t fun a ha => q a (.tail _ ha))
  | _, _, _, .yes h1 h2 h3 h4 h5 h6 h7 h8 t, q => .yes h1 h2 h3 h4 h5 h6 (q _ (.head _)) h8 (pends_set t fun a ha => q a (.tail _ ha))
theorem store_go {Mu0 Mu : Addr → Prop} {H0 H : Hp} {s : Src} : ∀ {is : List (Nat × Bool)} {vs : List V} {ds : List D} {env env' : Ev} {σ : L2.St}, Pends sw Mu H H0 env σ (is.map (·.2)) vs ds → JS sw Mu0 H0 Mu env σ H s → assignAll is ds env = some env' → (∀ p ∈ is, p.1 < σ.length) → JS sw Mu0 H0 Mu env' (setAll σ (is.map (·.1)) vs) H s
  | [], vs, ds, env, env', σ, P, J, e, hl => by
    cases P
    cases e
    exact J
  | (i, false) :: is, vs, ds, env, env', σ, P, J, e, hl => by
    rw [List.map_cons] at P
    cases P with
    | @no v d _ vs ds h t =>
      obtain ⟨env1, e1, e2⟩ := Option.bind_eq_some_iff.mp (show (asg env i false d).bind (fun σ' => assignAll is ds σ') = some env' from e)
      cases e1
      have hi : i < σ.length := hl _ (.head _)
      refine store_go (is := is) (vs := vs) (σ := σ.set i (some v)) (pends_set t fun a ha j d' hj => ?_) (J.setF i hi h) e2 fun p hp => by rw [List.length_set]; exact hl p (.tail _ hp)
      by_cases ei : i = j
      · subst ei
        rw [List.getElem?_set_self (by rw [J.je.len]; exact hi)] at hj
        cases hj
      · rw [List.getElem?_set_ne ei] at hj
        rw [List.getElem?_set_ne ei]
        have : ∀ {os : List Bool} {vs : List V} {ds : List D}, Pends sw Mu H H0 env σ os vs ds → (true, V.ref a) ∈ os.zip vs → σ[j]? ≠ some (some (.ref a)) := by
          intro os vs ds P
          induction P with
          | nil => intro h; cases h
          | no h t ih => intro hm; rcases List.mem_cons.mp hm with e | hm; (cases e); exact ih hm
          | yes h1 h2 h3 h4 h5 h6 h7 h8 t ih =>
            intro hm
            rcases List.mem_cons.mp hm with e | hm
            · cases e
              exact h7 j d' hj
            · exact ih hm
        exact this t ha
  | (i, true) :: is, vs, ds, env, env', σ, P, J, e, hl => by
    rw [List.map_cons] at P
    cases P with
    | @yes a d _ vs ds h1 h2 h3 h4 h5 h6 h7 h8 t =>
      obtain ⟨env1, e1, e2⟩ := Option.bind_eq_some_iff.mp (show (asg env i true d).bind (fun σ' => assignAll is ds σ') = some env' from e)
      have e1' : env1 = env.set i (.own d) := by
        unfold asg at e1
        rw [if_pos rfl, if_pos h6] at e1
        exact (Option.some.inj e1).symm
      subst e1'
      have hi : i < σ.length := hl _ (.head _)
      refine store_go (is := is) (vs := vs) (σ := σ.set i (some (.ref a))) (pends_set t fun b hb j d' hj => ?_) (J.setO i hi h1 h2 h3 h4 h5 h7) e2 fun p hp => by rw [List.length_set]; exact hl p (.tail _ hp)
      by_cases ei : i = j
      · subst ei
        rw [List.getElem?_set_self hi]
        intro z
        cases z
        exact h8 _ hb rfl rfl
      · rw [List.getElem?_set_ne ei] at hj
        rw [List.getElem?_set_ne ei]
        have : ∀ {os : List Bool} {vs : List V} {ds : List D}, Pends sw Mu H H0 env σ os vs ds → (true, V.ref b) ∈ os.zip vs → σ[j]? ≠ some (some (.ref b)) := by
          intro os vs ds P
          induction P with
          | nil => intro h; cases h
          | no h t ih => intro hm; rcases List.mem_cons.mp hm with e | hm; (cases e); exact ih hm
          | yes g1 g2 g3 g4 g5 g6 g7 g8 t ih =>
            intro hm
            rcases List.mem_cons.mp hm with e | hm
            · cases e
              exact g7 j d' hj
            · exact ih hm
        exact this t hb
end
end Mp

/-! L3r: the other statements; all statements. -/
namespace Mp
open PySem L2 PyProof.Rows PySem.W

section
variable {X : Cx} {sw : Sw} {call : Call} {fs : List String} {N : List Str} {fuel : Nat}
theorem lcl_eq {sc : Scope} {x : Str} (h : lclB sc x = true) : sc.names.lookup x = some .local := by
  unfold lclB at h
  split at h
  · assumption
  · cases h
theorem ns : ∀ e : Expr, starredB e = false → (match e with | .Starred _ _ => true | _ => false) = false := by
  intro e h
  cases e <;> first | rfl | cases h
theorem starB_eq : (fun e : Expr => match e with | .Starred .. => true | _ => false) = starredB := by
  funext e
  cases e <;> rfl
theorem sw2 {x y : Str} {px py pt pt2 : Pos} {a b : Expr} {kt k2 : Nat} (hk : X.env.scope.kind = .function) (h : parB X.env.scope [.Name x px, .Name y py] [a, b] = true) : swappedStores [.Tuple [.Name x px, .Name y py] kt pt] (.Tuple [a, b] k2 pt2) X.env = pure (some [x, y]) ∧ X.env.scope.names.lookup x = some .local ∧ X.env.scope.names.lookup y = some .local := by
  have e1 : X.env.blockKind = .function := by unfold Env.blockKind; rw [hk]; rfl
  unfold parB namesB namesB namesB at h
  simp only [Option.map_some, List.length_cons, List.length_nil, Bool.and_eq_true, List.all_cons, List.all_nil, Bool.and_true, decide_eq_true_eq, Bool.not_eq_true', beq_iff_eq, Option.getD_some, List.head?_cons] at h
  obtain ⟨⟨⟨⟨⟨⟨⟨⟨h1, h2⟩, h3⟩, h4⟩, h5⟩, h6⟩, h7⟩, h8⟩, h9⟩ := h
  have l1 := lcl_eq h5.1
  have l2 := lcl_eq h5.2
  have k1 : X.env.kindOf x = some .local := l1
  have k2 : X.env.kindOf y = some .local := l2
  have p1 : (Expr.Name x px).pos.line = px.line := rfl
  have p2 : py.line = px.line := h6.2
  have sa := ns a (by simp [List.any_cons] at h4; exact h4.1)
  have sb := ns b (by simp [List.any_cons] at h4; exact h4.2)
  refine ⟨?_, l1, l2⟩
  unfold swappedStores
  simp [e1, k1, k2, h8, h9, p1, p2, List.filterMap, h7]
  intro q
  exfalso
  rcases q with q | q
  · cases (sa.symm.trans q)
  · cases (sb.symm.trans q)
theorem sw3 {x y z : Str} {px py pz pt pt2 : Pos} {a b c : Expr} {kt k2 : Nat} (hk : X.env.scope.kind = .function) (h : parB X.env.scope [.Name x px, .Name y py, .Name z pz] [a, b, c] = true) : swappedStores [.Tuple [.Name x px, .Name y py, .Name z pz] kt pt] (.Tuple [a, b, c] k2 pt2) X.env = pure (some [x, y, z]) ∧ X.env.scope.names.lookup x = some .local ∧ X.env.scope.names.lookup y = some .local ∧ X.env.scope.names.lookup z = some .local := by
  have e1 : X.env.blockKind = .function := by unfold Env.blockKind; rw [hk]; rfl
  unfold parB namesB namesB namesB namesB at h
  simp only [Option.map_some, List.length_cons, List.length_nil, Bool.and_eq_true, List.all_cons, List.all_nil, Bool.and_true, decide_eq_true_eq, Bool.not_eq_true', beq_iff_eq, Option.getD_some, List.head?_cons] at h
  obtain ⟨⟨⟨⟨⟨⟨⟨⟨h1, h2⟩, h3⟩, h4⟩, h5⟩, h6⟩, h7⟩, h8⟩, h9⟩ := h
  have l1 := lcl_eq h5.1
  have l2 := lcl_eq h5.2.1
  have l3 := lcl_eq h5.2.2
  have k1 : X.env.kindOf x = some .local := l1
  have k2 : X.env.kindOf y = some .local := l2
  have k3 : X.env.kindOf z = some .local := l3
  have p1 : (Expr.Name x px).pos.line = px.line := rfl
  have p2 : py.line = px.line := h6.2.1
  have p3 : pz.line = px.line := h6.2.2
  have sa := ns a (by simp [List.any_cons] at h4; exact h4.1)
  have sb := ns b (by simp [List.any_cons] at h4; exact h4.2.1)
  have sc := ns c (by simp [List.any_cons] at h4; exact h4.2.2)
  refine ⟨?_, l1, l2, l3⟩
  unfold swappedStores
  have h8' : [a, b, c].all (foldedForSure 8) = false := by simpa using h8
  have h9' : [a, b, c].all (constantsAlone 8) = false := by simpa using h9
  simp [e1, k1, k2, k3, h8, h9, p1, p2, p3, List.filterMap, h7]
  intro q
  exfalso
  rcases q with q | q | q
  · cases (sa.symm.trans q)
  · cases (sb.symm.trans q)
  · cases (sc.symm.trans q)
end
end Mp

/-! L3t: if, for, while, return, several; all statements. -/
namespace Mp
open PySem L2 PyProof.Rows PySem.W

section
variable {X : Cx} {sw : Sw} {call : Call} {fs : List String} {N : List Str} {fuel : Nat}

theorem assignAll_own : ∀ {is : List (Nat × Bool)} {ds : List D} {env env' : Ev}, assignAll is ds env = some env' → ∀ (d : D) (o : Bool) (i : Nat), (is.map (·.2))[i]? = some o → ds[i]? = some d → o = true → isSeqOrDict d = true
  | (k, b) :: is, d0 :: ds, env, env', e, d, o, 0, h1, h2, h3 => by
    obtain ⟨env1, e1, e2⟩ := Option.bind_eq_some_iff.mp (show (asg env k b d0).bind (fun σ' => assignAll is ds σ') = some env' from e)
    simp at h1 h2
    subst h1 h2 h3
    unfold asg at e1
    rw [if_pos rfl] at e1
    split at e1
    · assumption
    · cases e1
  | (k, b) :: is, d0 :: ds, env, env', e, d, o, i + 1, h1, h2, h3 => by
    obtain ⟨env1, e1, e2⟩ := Option.bind_eq_some_iff.mp (show (asg env k b d0).bind (fun σ' => assignAll is ds σ') = some env' from e)
    exact assignAll_own e2 d o i (by simpa using h1) (by simpa using h2) h3
  | [], _, _, _, _, _, _, _, h1, _, _ => by simp at h1
  | _ :: _, [], _, _, _, _, _, _, _, h2, _ => by simp at h2
theorem slots_fresh {sc : Scope} : ∀ {is : List (Nat × Bool)} {ts : List Expr} {es : Es}, slotsOk N sc is ts es = true → freshOk (is.map (·.2)) es = true
  | [], [], .nil, _ => rfl
  | (i, o) :: is, .Name x p :: ts, .cons e r, h => by
    unfold slotsOk at h
    simp only [Bool.and_eq_true] at h
    rw [List.map_cons]
    unfold freshOk
    rw [Bool.and_eq_true]
    exact ⟨h.1.2, slots_fresh h.2⟩
  | [], _ :: _, _, h => by cases h
  | [], [], .cons _ _, h => by cases h
  | [], [], .star _ _, h => by cases h
  | _ :: _, [], _, h => by cases h
  | (_, _) :: _, t :: _, .nil, h => by cases t <;> cases h
  | (_, _) :: _, t :: _, .star _ _, h => by cases t <;> cases h
  | (_, _) :: _, .BoolOp .. :: _, .cons _ _, h => by cases h
  | (_, _) :: _, .NamedExpr .. :: _, .cons _ _, h => by cases h
  | (_, _) :: _, .BinOp .. :: _, .cons _ _, h => by cases h
  | (_, _) :: _, .UnaryOp .. :: _, .cons _ _, h => by cases h
  | (_, _) :: _, .Lambda .. :: _, .cons _ _, h => by cases h
  | (_, _) :: _, .IfExp .. :: _, .cons _ _, h => by cases h
  | (_, _) :: _, .Dict .. :: _, .cons _ _, h => by cases h
  | (_, _) :: _, .Set .. :: _, .cons _ _, h => by cases h
  | (_, _) :: _, .ListComp .. :: _, .cons _ _, h => by cases h
  | (_, _) :: _, .SetComp .. :: _, .cons _ _, h => by cases h
  | (_, _) :: _, .DictComp .. :: _, .cons _ _, h => by cases h
  | (_, _) :: _, .GeneratorExp .. :: _, .cons _ _, h => by cases h
  | (_, _) :: _, .Await .. :: _, .cons _ _, h => by cases h
  | (_, _) :: _, .Yield .. :: _, .cons _ _, h => by cases h
  | (_, _) :: _, .YieldFrom .. :: _, .cons _ _, h => by cases h
  | (_, _) :: _, .Compare .. :: _, .cons _ _, h => by cases h
  | (_, _) :: _, .Call .. :: _, .cons _ _, h => by cases h
  | (_, _) :: _, .FormattedValue .. :: _, .cons _ _, h => by cases h
  | (_, _) :: _, .JoinedStr .. :: _, .cons _ _, h => by cases h
  | (_, _) :: _, .Constant .. :: _, .cons _ _, h => by cases h
  | (_, _) :: _, .Attribute .. :: _, .cons _ _, h => by cases h
  | (_, _) :: _, .Subscript .. :: _, .cons _ _, h => by cases h
  | (_, _) :: _, .Starred .. :: _, .cons _ _, h => by cases h
  | (_, _) :: _, .List .. :: _, .cons _ _, h => by cases h
  | (_, _) :: _, .Tuple .. :: _, .cons _ _, h => by cases h
  | (_, _) :: _, .Slice .. :: _, .cons _ _, h => by cases h
theorem pa_seq (O : XOk call fs N X) : ∀ {es : Es} {os : List Bool} {as : List Expr}, freshOk os es = true → chks N fs X.env.scope es as = true → PA X as (tSeqE sw call es)
  | .nil, os, as, _, h => by
    cases as with
    | nil => exact pa_nil
    | cons a as => cases h
  | .cons e r, os, as, hf, h => by
    cases as with
    | nil => cases h
    | cons a as =>
      cases os with
      | nil => cases hf
      | cons o os =>
        unfold freshOk at hf
        rw [Bool.and_eq_true] at hf
        unfold chks at h
        simp only [Bool.and_eq_true, Bool.not_eq_true'] at h
        exact pa_cons ((sE e).pe false X a O h.1.1) (pa_seq O hf.2 h.2) (star_head h.1.2)
  | .star _ _, os, as, hf, _ => by cases os <;> cases hf

theorem slot1 {sc : Scope} {i : Nat} {o : Bool} {is : List (Nat × Bool)} {t : Expr} {ts : List Expr} {es : Es} (h : slotsOk N sc ((i, o) :: is) (t :: ts) es = true) : ∃ x p e r, t = .Name x p ∧ es = .cons e r ∧ N[i]? = some x ∧ slotsOk N sc is ts r = true := by
  cases es with
  | cons e r =>
    cases t with
    | Name x p =>
      unfold slotsOk at h
      simp only [Bool.and_eq_true, decide_eq_true_eq] at h
      exact ⟨x, p, e, r, rfl, rfl, h.1.1.1, h.2⟩
    | _ => cases h
  | nil => cases t <;> cases h
  | star _ _ => cases t <;> cases h

theorem x_assigns {is : List (Nat × Bool)} {es : Es} {ts vs : List Expr} {kt k2 : Nat} {tp vp pos : Pos} (O : XOkS call fs N X) (hl : is.length = ts.length) (hs : slotsOk N X.env.scope is ts es = true) (hc : chks N fs X.env.scope es vs = true) (hp : parB X.env.scope ts vs = true) (nd : (is.map (·.1)).Nodup) :
    PS X (.Assign [.Tuple ts kt tp] (.Tuple vs k2 vp) pos) (tS sw (exec call fuel (.assigns is es))) := by
  have fo := slots_fresh hs
  have pa := pa_seq (sw := sw) O.toXOk fo hc
  have hN := O.names
  subst hN
  -- what both forms ask
  have main : ∀ (De : Ends) (σ : L2.St) (H : Hp) (hlen : σ.length = X.N.length), tS sw (exec call fuel (.assigns is es)) De σ H → tSeqE sw call es σ H fun vs H1 => vs.length = is.length ∧ De.nx (setAll σ (is.map (·.1)) vs) H1 := fun De σ H hlen ⟨Mu0, H0, Mu, env, src, fl, src', J, e0, k⟩ => by
    obtain ⟨ds, s1, e1, e2⟩ := bnd_some (show bnd (evs call false es env) _ src = _ from e0)
    obtain ⟨env', s2, e3, e4⟩ := bnd_some e2
    obtain ⟨e5, hss⟩ := lft_some e3
    subst hss
    obtain ⟨rfl, rfl⟩ := ret_some e4
    refine seq_go fo J e1 (fun _ => assignAll_own e5) fun vs Mu' H' J' st E sub P nw => ?_
    have lens : ∀ {os : List Bool} {vs : List V} {ds : List D}, Pends sw Mu' H' H0 env σ os vs ds → vs.length = os.length := by
      intro os vs ds P
      induction P with
      | nil => rfl
      | no _ _ ih => simp [ih]
      | yes _ _ _ _ _ _ _ _ _ ih => simp [ih]
    refine ⟨by rw [lens P, List.length_map], k Mu' _ H' (store_go P J' e5 fun p hp => ?_) st⟩
    have inN : ∀ {is : List (Nat × Bool)} {ts : List Expr} {es : Es}, slotsOk X.N X.env.scope is ts es = true → ∀ p ∈ is, p.1 < X.N.length := by
      intro is
      induction is with
      | nil => intro ts es _ p hp; cases hp
      | cons q is ih =>
        intro ts es h p hp
        obtain ⟨i, o⟩ := q
        cases ts with
        | nil => cases h
        | cons t ts =>
          obtain ⟨x, p', e, r, rfl, rfl, g1, g2⟩ := slot1 h
          rcases List.mem_cons.mp hp with rfl | hp
          · exact (List.getElem?_eq_some_iff.mp g1).1
          · exact ih g2 p hp
    rw [hlen]
    exact inN hs p hp
  have two : is.length = 2 ∨ is.length = 3 := by
    have z := hp
    unfold parB at z
    split at z
    · simp only [Bool.and_eq_true, Bool.or_eq_true, beq_iff_eq] at z
      rw [hl]
      exact z.1.1.1.1.1.1.1.1
    · cases z
  have vl : vs.length = ts.length := by
    have z := hp
    unfold parB at z
    split at z
    · simp only [Bool.and_eq_true, beq_iff_eq] at z
      exact z.1.1.1.1.1.1.1.2
    · cases z
  match is, ts, vs, hl, vl, two, hs, hp, nd, pa, main with
  | [(i, o), (j, o')], [t1, t2], [a, b], _, _, _, hs, hp, nd, pa, main =>
    obtain ⟨x, px, e1, r1, rfl, _, g1, hs1⟩ := slot1 hs
    obtain ⟨y, py, e2, r2, rfl, _, g2, _⟩ := slot1 hs1
    obtain ⟨w1, l1, l2⟩ := sw2 (kt := kt) (k2 := k2) (pt := tp) (pt2 := vp) O.kind hp
    have hij : i ≠ j := by simpa using nd
    have q := ps_par (pos := pos) O.calm O.nd g1 g2 hij l1 l2 pa w1 rfl
    refine ⟨fun pins s σ H D I h => q.run pins s σ H D I ?_⟩
    have m := main D σ H I.len h
    have mono : ∀ (es : Es) (σ : L2.St) (H : Hp) (P Q : List V → Hp → Prop), (∀ v h, P v h → Q v h) → tSeqE sw call es σ H P → tSeqE sw call es σ H Q := by
      intro es
      induction es using Es.rec (motive_1 := fun _ => True) (motive_3 := fun _ => True) (motive_4 := fun _ => True) with
      | nil => intro σ H P Q f h; exact f _ _ h
      | cons e r _ ih =>
        intro σ H P Q f ⟨Mu, env, src, d, src', J, e1, k⟩
        exact ⟨Mu, env, src, d, src', J, e1, fun v H1 E S R fr => ih σ H1 _ _ (fun vs h => f _ h) (k v H1 E S R fr)⟩
      | star e r _ _ => intro σ H P Q f h; exact h
      | _ => trivial
    refine mono _ σ H _ _ (fun vs h ⟨hv, hq⟩ => ?_) m
    match vs, hv, hq with
    | [v, w], _, hq => exact ⟨v, w, rfl, hq⟩
  | [(i, o), (j, o'), (l, o'')], [t1, t2, t3], [a, b, c], _, _, _, hs, hp, nd, pa, main =>
    obtain ⟨x, px, e1, r1, rfl, _, g1, hs1⟩ := slot1 hs
    obtain ⟨y, py, e2, r2, rfl, _, g2, hs2⟩ := slot1 hs1
    obtain ⟨z, pz, e3, r3, rfl, _, g3, _⟩ := slot1 hs2
    obtain ⟨w1, l1, l2, l3⟩ := sw3 (kt := kt) (k2 := k2) (pt := tp) (pt2 := vp) O.kind hp
    have hne : (i ≠ j ∧ i ≠ l) ∧ j ≠ l := by simpa using nd
    have q := ps_par3 (pos := pos) O.calm O.nd g1 g2 g3 hne.1.1 hne.1.2 hne.2 l1 l2 l3 pa w1 rfl
    refine ⟨fun pins s σ H D I h => q.run pins s σ H D I ?_⟩
    have m := main D σ H I.len h
    have mono : ∀ (es : Es) (σ : L2.St) (H : Hp) (P Q : List V → Hp → Prop), (∀ v h, P v h → Q v h) → tSeqE sw call es σ H P → tSeqE sw call es σ H Q := by
      intro es
      induction es using Es.rec (motive_1 := fun _ => True) (motive_3 := fun _ => True) (motive_4 := fun _ => True) with
      | nil => intro σ H P Q f h; exact f _ _ h
      | cons e r _ ih =>
        intro σ H P Q f ⟨Mu, env, src, d, src', J, e1, k⟩
        exact ⟨Mu, env, src, d, src', J, e1, fun v H1 E S R fr => ih σ H1 _ _ (fun vs h => f _ h) (k v H1 E S R fr)⟩
      | star e r _ _ => intro σ H P Q f h; exact h
      | _ => trivial
    refine mono _ σ H _ _ (fun vs h ⟨hv, hq⟩ => ?_) m
    match vs, hv, hq with
    | [u, v, w], _, hq => exact ⟨u, v, w, rfl, hq⟩
/-! the same where a name is a cell: by a tuple -/
def gNm : List Nat → TGs
  | [] => gNil
  | i :: is => gCons (gName i) (gNm is)
theorem gNm_of : ∀ {is : List Nat} {vs : List V} {σ : L2.St} {H : Hp} {Q : L2.St → Hp → Prop}, vs.length = is.length → Q (setAll σ is vs) H → gNm is vs σ H Q
  | [], [], σ, H, Q, _, h => ⟨rfl, h⟩
  | i :: is, v :: vs, σ, H, Q, hl, h => ⟨v, vs, rfl, gNm_of (by simpa using hl) h⟩
  | [], _ :: _, _, _, _, hl, _ => by cases hl
  | _ :: _, [], _, _, _, hl, _ => by cases hl
theorem pgs_nm (O : XOkS call fs N X) : ∀ {is : List (Nat × Bool)} {ts : List Expr} {es : Es}, slotsOk N X.env.scope is ts es = true → PGs X ts (gNm (is.map (·.1))) ∧ (assignEach ts X.env).length = is.length ∧ (assignEach ts X.env).findIdx? (·.1) = none
  | [], [], .nil, _ => ⟨pgs_nil, rfl, rfl⟩
  | [], [], .cons _ _, h => by cases h
  | [], [], .star _ _, h => by cases h
  | [], _ :: _, _, h => by cases h
  | _ :: _, [], _, h => by cases h
  | (i, o) :: is, t :: ts, es, h => by
    obtain ⟨x, p, e, r, rfl, rfl, g1, g2⟩ := slot1 h
    obtain ⟨q1, q2, q3⟩ := pgs_nm O g2
    have hN := O.names
    subst hN
    unfold slotsOk at h
    simp only [Bool.and_eq_true, decide_eq_true_eq] at h
    refine ⟨pgs_cons (pg_name O.nd g1 (loc_of h.1.1.2) (.inl (by rw [O.fnT]))) q1, ?_, ?_⟩
    · show (assignEach ts X.env).length + 1 = _
      rw [q2, List.length_cons]
    · show List.findIdx? _ ((false, _) :: assignEach ts X.env) = none
      rw [List.findIdx?_cons, q3]
      rfl
theorem pends_same {Mu : Addr → Prop} {H H' H0 : Hp} {env : Ev} {σ : L2.St} (e : Same H H') (dom : ∀ a, Mu a → H a ≠ none) : ∀ {os : List Bool} {vs : List V} {ds : List D}, Pends sw Mu H H0 env σ os vs ds → Pends sw Mu H' H0 env σ os vs ds
  | _, _, _, .nil => .nil
  | _, _, _, .no h t => .no (Same.rep e h) (pends_same e dom t)
  | _, _, _, .yes h1 h2 h3 h4 h5 h6 h7 h8 t => .yes h1 h2 (Same.own e h3) h4 (fun o u z => by
      cases q : H _ with
      | none => exact dom _ h1 q
      | some w =>
        rw [e _ w q] at z
        cases z
        exact h5 _ _ q) h6 h7 h8 (pends_same e dom t)
theorem x_assignsC {is : List (Nat × Bool)} {es : Es} {ts vs : List Expr} {kt k2 : Nat} {tp vp pos : Pos} (O : XOkS call fs N X) (hs : slotsOk N X.env.scope is ts es = true) (hc : chks N fs X.env.scope es vs = true) (hn : noLocal X.env.scope (.Tuple ts kt tp) = true) (h9 : is.length ≤ 9) :
    PS X (.Assign [.Tuple ts kt tp] (.Tuple vs k2 vp) pos) (tS sw (exec call fuel (.assigns is es))) := by
  have fo := slots_fresh hs
  have pa := pa_seq (sw := sw) O.toXOk fo hc
  obtain ⟨g1, g2, g3⟩ := pgs_nm O hs
  have q := ps_asg (pos := pos) (pe_tup (x1 := k2) (pos := vp) pa) (pg_tup (k := kt) (pos := tp) O.calm g1 g2 g3) rfl (no_swap hn) rfl
  refine ⟨fun pins s σ H De I h => q.run pins s σ H De I ?_⟩
  obtain ⟨Mu0, H0, Mu, env, src, fl, src', J, e0, k⟩ := h
  obtain ⟨ds, s1, e1, e2⟩ := bnd_some (show bnd (evs call false es env) _ src = _ from e0)
  obtain ⟨env', s2, e3, e4⟩ := bnd_some e2
  obtain ⟨e5, hss⟩ := lft_some e3
  subst hss
  obtain ⟨rfl, rfl⟩ := ret_some e4
  refine seq_go fo J e1 (fun _ => assignAll_own e5) fun ws Mu' H' J' st E sub P nw => ?_
  have lens : ∀ {os : List Bool} {vs : List V} {ds : List D}, Pends sw Mu' H' H0 env σ os vs ds → vs.length = os.length := by
    intro os vs ds P
    induction P with
    | nil => rfl
    | no _ _ ih => simp [ih]
    | yes _ _ _ _ _ _ _ _ _ ih => simp [ih]
  have hN := O.names
  subst hN
  have inN : ∀ {is : List (Nat × Bool)} {ts : List Expr} {es : Es}, slotsOk X.N X.env.scope is ts es = true → ∀ p ∈ is, p.1 < X.N.length := by
    intro is
    induction is with
    | nil => intro ts es _ p hp; cases hp
    | cons q is ih =>
      intro ts es h p hp
      obtain ⟨i, o⟩ := q
      cases ts with
      | nil => cases h
      | cons t ts =>
        obtain ⟨x, p', e, r, rfl, rfl, g1, g2⟩ := slot1 h
        rcases List.mem_cons.mp hp with rfl | hp
        · exact (List.getElem?_eq_some_iff.mp g1).1
        · exact ih g2 p hp
  have wl : ws.length = is.length := by rw [lens P, List.length_map]
  refine ⟨?_, fun p hp => ?_⟩
  · rw [wl, sizeLine_eq]
    omega
  · have sm : Same H' (upd H' p (.tup ws)) := same_new hp
    have J2 := J'.ext' (ExtS.of_same sm) (J'.je.src.same sm)
    refine ⟨p, ws, rfl, SqT.of upd_same, wl, gNm_of (by rw [wl, List.length_map]) (k Mu' _ _ (store_go (pends_same sm J'.je.dom P) J2 e5 fun q hq => by rw [I.len]; exact inN hs q hq) (st.tr (Stp.of_ext (ExtS.of_same sm) J'.je.swm J'.je.src (J'.je.src.same sm))))⟩
end
end Mp

/-! L3u: if, for, while, return; all statements. -/
namespace Mp
open PySem L2 PyProof.Rows PySem.W

section
variable {X : Cx} {sw : Sw} {call : Call} {fs : List String} {N : List Str} {fuel : Nat}

/-- what a statement's end wants -/
def FlK (sw : Sw) (De : Ends) (Mu0 : Addr → Prop) (H0 : Hp) (Mu : Addr → Prop) (H : Hp) (src' : Src) (fl : Fl) : Prop :=
  match fl with
  | .next env' => ∀ Mu' σ' H', JS sw Mu0 H0 Mu' env' σ' H' src' → Stp Mu H Mu' H' → De.nx σ' H'
  | .ret d => ∀ v H', ExtS sw H0 H' → SrcOk sw H' src' → Rep Mu0 H' v d → De.rt v H'
theorem fl_pre {De : Ends} {Mu0 Mu Mu1 : Addr → Prop} {H0 H H1 : Hp} {src' : Src} {fl : Fl} (st : Stp Mu H Mu1 H1) (k : FlK sw De Mu0 H0 Mu H src' fl) : FlK sw De Mu0 H0 Mu1 H1 src' fl := by
  cases fl with
  | next env' => exact fun Mu' σ' H' J' st' => k Mu' σ' H' J' (st.tr st')
  | ret d => exact k

theorem js_bind {Mu0 Mu : Addr → Prop} {H0 H : Hp} {env env' : Ev} {σ σ' : L2.St} {s : Src} {t : T} {d : D} (J : JS sw Mu0 H0 Mu env σ H s) (e : bindT t d env = some env') (J2 : JE sw Mu env' σ' H s) (n2 : ∀ j, j ∉ namesT t → σ'[j]? = σ[j]?) : JS sw Mu0 H0 Mu env' σ' H s := by
  have own : ∀ (j : Nat) d', env'[j]? = some (.own d') → env[j]? = some (.own d') ∧ σ'[j]? = σ[j]? := fun j d' hj => by
    obtain ⟨q1, q2⟩ := bindT_own t d env env' e j d' hj
    exact ⟨q1, n2 j q2⟩
  refine ⟨J2, J.dom0, J.sub, J.ext, fun j d' hj b hb => ?_, fun j l d1 d2 b hjl g1 g2 g3 => ?_⟩
  · obtain ⟨q1, q2⟩ := own j d' hj
    rw [q2] at hb
    exact J.own j d' q1 b hb
  · obtain ⟨q1, q2⟩ := own j d1 g1
    obtain ⟨q3, q4⟩ := own l d2 g2
    rw [q2] at g3
    rw [q4]
    exact J.uniq j l d1 d2 b hjl q1 q3 g3

theorem js_freeze {Mu0 Mu : Addr → Prop} {H0 H : Hp} {env : Ev} {σ : L2.St} {s : Src} {i : Nat} {d : D} (J : JS sw Mu0 H0 Mu env σ H s) (hi : env[i]? = some (.own d)) : ∃ Mu', JS sw Mu0 H0 Mu' (env.set i (.frz d)) σ H s ∧ Stp Mu H Mu' H := by
  obtain ⟨a, h1, h2, h3, h4⟩ := J.je.slot i _ hi
  have h0 := (J.own i d hi a h1).1
  have hil : i < env.length := (List.getElem?_eq_some_iff.mp hi).1
  have kp : Keeps Mu H (fun b => Mu b ∧ b ≠ a) H := ⟨fun b u h r => ⟨fun z => h z.1, r⟩, fun b u h r => ⟨fun z => h z.1, r⟩, fun b u h r => ⟨fun z => h z.1, r⟩, fun _ _ h => h⟩
  have na : ¬ (Mu a ∧ a ≠ a) := fun z => z.2 rfl
  have get : ∀ (j : Nat) sl, (env.set i (.frz d))[j]? = some sl → (i = j ∧ sl = .frz d) ∨ (i ≠ j ∧ env[j]? = some sl) := fun j sl h => by
    by_cases e : i = j
    · subst e
      rw [List.getElem?_set_self hil] at h
      exact .inl ⟨rfl, (Option.some.inj h).symm⟩
    · rw [List.getElem?_set_ne e] at h
      exact .inr ⟨e, h⟩
  refine ⟨fun b => Mu b ∧ b ≠ a, ⟨⟨by rw [List.length_set]; exact J.je.len, J.je.src, fun p hp => ⟨⟨(J.je.swm p hp).1, fun z => (h3 p hp).1 z.symm⟩, ⟨(J.je.swm p hp).2, fun z => (h3 p hp).2 z.symm⟩⟩, fun b hb => J.je.dom b hb.1, fun j sl h => ?_⟩, J.dom0, fun b hb => ⟨J.sub b hb, fun z => J.dom0 b hb (z ▸ h0)⟩, J.ext, fun j d' hj b hb => ?_, fun j l d1 d2 b hjl g1 g2 g3 => ?_⟩, ⟨fun _ _ h _ => h, fun b hb => .inl hb.1, fun _ h => h⟩⟩
  · rcases get j sl h with ⟨rfl, rfl⟩ | ⟨n, h⟩
    · refine ⟨.ref a, h1, ?_⟩
      cases h4 with
      | lst q1 q2 => exact .lst na q1 (RepAll.keeps kp q2)
      | dK q1 q2 => exact .dK na q1 (RepK.keeps kp q2)
      | dT q0 q1 q2 => exact .dT q0 na q1 (RepT.keeps kp q2)
    · have q := J.je.slot j sl h
      cases sl with
      | no => trivial
      | frz e => obtain ⟨v, q1, q2⟩ := q; exact ⟨v, q1, q2.keeps kp⟩
      | own e =>
        obtain ⟨b, q1, q2, q3, q4⟩ := q
        refine ⟨b, q1, ⟨q2, ?_⟩, q3, q4.keeps kp fun u h => h⟩
        rintro rfl
        exact J.uniq i j d e b n hi h h1 q1
      | src => exact q
  · rcases get j _ hj with ⟨_, z⟩ | ⟨_, h⟩
    · cases z
    · exact J.own j d' h b hb
  · rcases get j _ g1 with ⟨_, z⟩ | ⟨_, g1⟩
    · cases z
    · rcases get l _ g2 with ⟨_, z⟩ | ⟨_, g2⟩
      · cases z
      · exact J.uniq j l d1 d2 b hjl g1 g2 g3

theorem x_if {c : E} {a b : Ss} {e : Expr} {p q : List Stmt} {pos : Pos} (hc : PT X e (tEt sw call c)) (ha : PSs X p (tS sw (execs call fuel a))) (hb : PSs X q (tS sw (execs call fuel b))) : PS X (.If e p q pos) (tS sw (exec call fuel (.if_ c a b))) :=
  ps_imp (ps_if hc ha hb) fun D σ H ⟨Mu0, H0, Mu, env, src, fl, src', J, e0, k⟩ => by
    obtain ⟨d, s1, e1, e2⟩ := bnd_some (show bnd (ev call false c env) _ src = _ from e0)
    cases d with
    | bool t =>
      refine ⟨Mu, env, src, t, s1, J.je, e1, fun H1 E S => ?_⟩
      have J1 := J.ext' E S
      have st := Stp.of_ext E J.je.swm J.je.src S
      cases t with
      | true =>
        refine Eq.mpr (if_pos rfl) ?_
        exact ⟨Mu0, H0, Mu, env, s1, fl, src', J1, e2, fl_pre st k⟩
      | false =>
        refine Eq.mpr (if_neg Bool.false_ne_true) ?_
        exact ⟨Mu0, H0, Mu, env, s1, fl, src', J1, e2, fl_pre st k⟩
    | _ => exact (stuck_some e2).elim

theorem x_ret {e : E} {a : Expr} {pos : Pos} (O : XOkS call fs N X) (h : chk N fs X.env.scope e a = true) : PS X (.Return (some a) pos) (tS sw (exec call fuel (.ret e))) := by
  cases hv : isVar e with
  | false =>
    refine ps_imp (ps_ret ((sE (sw := sw) e).pe false X a O.toXOk h)) fun D σ H ⟨Mu0, H0, Mu, env, src, fl, src', J, e0, k⟩ => ?_
    have e0' : bnd (ev call (isVar e) e env) (fun d => ret (.ret d)) src = some (fl, src') := e0
    rw [hv] at e0'
    obtain ⟨d, s1, e1, e2⟩ := bnd_some e0'
    obtain ⟨rfl, hss⟩ := ret_some e2
    subst hss
    refine ⟨Mu, env, src, d, _, J.je, e1, fun v H1 E S R fr => k v H1 (J.ext.trans E) S (R.strict.keeps ?_)⟩
    exact ⟨fun b u h r => ⟨fun z => h (J.sub b z), r⟩, fun b u h r => ⟨fun z => h (J.sub b z), r⟩, fun b u h r => ⟨fun z => h (J.sub b z), r⟩, fun _ _ h => h⟩
  | true =>
    cases e with
    | var i =>
      unfold chk at h
      obtain ⟨x, p, rfl, x1, x2, x3, x4⟩ := slotIs_of h
      have hN := O.names
      subst hN
      refine ps_imp (ps_ret (pe_var (i := i) x1 x2 x3 x4)) fun D σ H ⟨Mu0, H0, Mu, env, src, fl, src', J, e0, k⟩ => ?_
      obtain ⟨d, s1, e1, e2⟩ := bnd_some (show bnd (lft (rdSlot true env i)) (fun d => ret (.ret d)) src = some (fl, src') from e0)
      obtain ⟨rfl, hss⟩ := ret_some e2
      subst hss
      obtain ⟨e3, hss⟩ := lft_some e1
      subst hss
      have kp : Keeps Mu H Mu0 H := ⟨fun b u h r => ⟨fun z => h (J.sub b z), r⟩, fun b u h r => ⟨fun z => h (J.sub b z), r⟩, fun b u h r => ⟨fun z => h (J.sub b z), r⟩, fun _ _ h => h⟩
      unfold rdSlot at e3
      split at e3
      · rename_i d' hs
        obtain rfl := Option.some.inj e3
        obtain ⟨v, h5, h6⟩ := J.je.slot i _ hs
        exact ⟨v, h5, k v H J.ext J.je.src (h6.keeps kp)⟩
      · rename_i d' hs
        rw [if_pos rfl] at e3
        obtain rfl := Option.some.inj e3
        obtain ⟨a, h5, h6, h7, h8⟩ := J.je.slot i _ hs
        have na : ¬ Mu0 a := fun z => J.dom0 a z (J.own i d' hs a h5).1
        refine ⟨.ref a, h5, k (.ref a) H J.ext J.je.src ?_⟩
        cases h8 with
        | lst q1 q2 => exact .lst na q1 (RepAll.keeps kp q2)
        | dK q1 q2 => exact .dK na q1 (RepK.keeps kp q2)
        | dT q0 q1 q2 => exact .dT q0 na q1 (RepT.keeps kp q2)
      · cases e3
    | _ => cases hv

/-- a dict locked, for a loop over it -/
theorem js_lock {Mu0 Mu : Addr → Prop} {H0 H : Hp} {env : Ev} {σ : L2.St} {s : Src} {a : Addr} {u : HO} {od : Obj} (J : JS sw Mu0 H0 Mu env σ H s) (ha : H a = some u) (hu : IsDct u) (nm : ¬ Mu a) (off : offS sw a) :
    JS sw Mu0 (upd H0 a (.frz od u)) Mu env σ (upd H a (.frz od u)) s := by
  have offs : ∀ p, sw = some p → p.1 ≠ a ∧ p.2 ≠ a := fun p hp => ⟨fun z => (off p hp).1 z.symm, fun z => (off p hp).2 z.symm⟩
  have ne : ∀ b, Mu b → b ≠ a := fun b hb z => nm (z ▸ hb)
  refine ⟨J.je.lk (lk_on ha hu) (src_upd J.je.src offs) fun b hb => by rw [upd_ne (ne b hb)]; exact J.je.dom b hb, fun b hb => ?_, J.sub, fun b o hb hof => ?_, fun i d h b hb => ?_, J.uniq⟩
  · rw [upd_ne (ne b (J.sub b hb))]
    exact J.dom0 b hb
  · by_cases e : b = a
    · subst e
      rw [upd_same] at hb ⊢
      exact hb
    · rw [upd_ne e] at hb ⊢
      exact J.ext b o hb hof
  · obtain ⟨a', h1, h2, _, _⟩ := J.je.slot i _ h
    rw [hb] at h1
    cases h1
    rw [upd_ne (ne b h2), upd_ne (ne b h2)]
    exact J.own i d h b hb
theorem js_unlock {Mu0 Mu Mu' : Addr → Prop} {H0 H H' : Hp} {env env' : Ev} {σ σ' : L2.St} {s s' : Src} {a : Addr} {u : HO} {od : Obj} (J : JS sw Mu0 H0 Mu env σ H s) (ha : H a = some u) (hu : IsDct u) (nm : ¬ Mu a) (off : offS sw a)
    (J' : JS sw Mu0 (upd H0 a (.frz od u)) Mu' env' σ' H' s') (nm' : ¬ Mu' a) (ha' : H' a = some (.frz od u)) : JS sw Mu0 H0 Mu' env' σ' (upd H' a u) s' := by
  have offs : ∀ p, sw = some p → p.1 ≠ a ∧ p.2 ≠ a := fun p hp => ⟨fun z => (off p hp).1 z.symm, fun z => (off p hp).2 z.symm⟩
  have ne : ∀ b, Mu' b → b ≠ a := fun b hb z => nm' (z ▸ hb)
  refine ⟨J'.je.lk (lk_off ha' hu) (src_upd J'.je.src offs) fun b hb => by rw [upd_ne (ne b hb)]; exact J'.je.dom b hb, J.dom0, J'.sub, fun b o hb hof => ?_, fun i d h b hb => ?_, J'.uniq⟩
  · by_cases e : b = a
    · subst e
      have := J.ext b o hb hof
      rw [ha] at this
      rw [upd_same]
      exact this
    · rw [upd_ne e]
      exact J'.ext b o (by rw [upd_ne e]; exact hb) hof
  · obtain ⟨a', h1, h2, _, _⟩ := J'.je.slot i _ h
    rw [hb] at h1
    cases h1
    have := J'.own i d h b hb
    rw [upd_ne (ne b h2)] at this
    rw [upd_ne (ne b h2)]
    exact this
theorem stp_unlock {Mu Mu' : Addr → Prop} {H H' : Hp} {a : Addr} {u : HO} {od : Obj} (ha : H a = some u) (ha' : H' a = some (.frz od u)) (st : Stp Mu (upd H a (.frz od u)) Mu' H') : Stp Mu H Mu' (upd H' a u) := by
  refine ⟨fun c w h m => ?_, fun c m => ?_, fun c h => ?_⟩
  · by_cases e : c = a
    · subst e
      rw [ha] at h
      rw [upd_same]
      exact h
    · rw [upd_ne e]
      exact st.fix c w (by rw [upd_ne e]; exact h) m
  · rcases st.new c m with q | q
    · exact .inl q
    · by_cases e : c = a
      · subst e
        rw [upd_same] at q
        cases q
      · rw [upd_ne e] at q
        exact .inr q
  · by_cases e : c = a
    · subst e
      rw [upd_same]
      simp
    · rw [upd_ne e]
      exact st.there c (by rw [upd_ne e]; exact h)

theorem for_go {t : T} {it : I} {keep : List Nat} {body : Ss} {De : Ends} {σ : L2.St} {H : Hp} {Mu0 Mu : Addr → Prop} {H0 : Hp} {env : Ev} {src s1 src' : Src} {fl : Fl} {ds : List D} (J : JS sw Mu0 H0 Mu env σ H src) (lk : Locked it env σ H) (e1 : evI call false it env src = some (ds, s1))
    (e2 : forLoop (fun d σ1 => bnd (lft (bindT t d σ1)) fun σ2 => bnd (execs call fuel body σ2) fun fl => match fl with | .next σ3 => ret (.next (keepE keep σ3)) | .ret x => ret (.ret x)) ds (keepE keep env) s1 = some (fl, src')) (k : FlK sw De Mu0 H0 Mu H src' fl) :
    tFor (tIt sw call false it) (tT sw t) (tS sw (execs call fuel body)) De σ H := by
  refine ⟨Mu, env, src, ds, s1, J.je, e1, lk, fun Jt H1 E1 S1 W => ?_⟩
  have J1 := (J.ext' E1 S1).keep keep
  have st1 : Stp Mu H Mu H1 := Stp.of_ext E1 J.je.swm J.je.src S1
  refine ⟨fun i m σ2 H2 => m = ds.length - i ∧ i ≤ ds.length ∧ ∃ (Mu2 : Addr → Prop) (env2 : Ev) (s2 : Src), JS sw Mu0 H0 Mu2 env2 σ2 H2 s2 ∧ Stp Mu H1 Mu2 H2 ∧
    forLoop (fun d σ1 => bnd (lft (bindT t d σ1)) fun σ2 => bnd (execs call fuel body σ2) fun fl => match fl with | .next σ3 => ret (.next (keepE keep σ3)) | .ret x => ret (.ret x)) (ds.drop i) env2 s2 = some (fl, src'), ⟨ds.length, rfl, Nat.zero_le _, Mu, _, s1, J1, Stp.refl, e2⟩, ?_⟩
  rintro i m σ2 H2 ⟨rfl, hi, Mu2, env2, s2, J2, st2, el⟩
  have wk := W Mu2 H2 st2.keeps st2.fix (fun z => by cases z) i
  have dom1 : ∀ b, Mu b → H1 b ≠ none := J1.je.dom
  by_cases hlt : i < ds.length
  · refine .inr ?_
    have hdi : ds[i]? = some ds[i] := List.getElem?_eq_getElem hlt
    obtain ⟨go, yl⟩ := wk.1 _ hdi
    rw [List.drop_eq_getElem_cons hlt] at el
    unfold forLoop at el
    obtain ⟨fl1, s3, f1, f2⟩ := bnd_some el
    obtain ⟨env3, s4, g1, g2⟩ := bnd_some f1
    obtain ⟨g0, hss⟩ := lft_some g1
    subst hss
    obtain ⟨fl2, s5, g3, g4⟩ := bnd_some g2
    refine ⟨go, fun σ' H' => ∃ (Mu2 : Addr → Prop) (env2 : Ev) (s2 : Src), JS sw Mu0 H0 Mu2 env2 σ' H' s2 ∧ Stp Mu H1 Mu2 H' ∧
      forLoop (fun d σ1 => bnd (lft (bindT t d σ1)) fun σ2 => bnd (execs call fuel body σ2) fun fl => match fl with | .next σ3 => ret (.next (keepE keep σ3)) | .ret x => ret (.ret x)) (ds.drop (i + 1)) env2 s2 = some (fl, src'), fun σ' H' w => ⟨ds.length - (i + 1), by omega, rfl, hlt, w⟩, fun x H3 y => ?_⟩
    obtain ⟨sm, rx⟩ := yl x H3 y
    have J3 := J2.ext' (ExtS.of_same sm) (J2.je.src.same sm)
    have st3 : Stp Mu H1 Mu2 H3 := st2.tr (Stp.of_ext (ExtS.of_same sm) J2.je.swm J2.je.src (J2.je.src.same sm))
    refine ⟨Mu2, env2, s4, ds[i], env3, rx, J3.je, g0, fun σ4 J4 l4 n4 => ?_⟩
    have J5 := js_bind J3 g0 J4 n4
    refine ⟨Mu0, H0, Mu2, env3, s4, fl2, s5, J5, g3, ?_⟩
    cases fl2 with
    | next env4 =>
      obtain ⟨rfl, hss⟩ := ret_some (show ret (Fl.next (keepE keep env4)) s5 = _ from g4)
      subst hss
      exact fun Mu' σ' H' J' st' => ⟨Mu', _, _, J'.keep keep, st3.tr st', f2⟩
    | ret x =>
      obtain ⟨rfl, hss⟩ := ret_some (show ret (Fl.ret x) s5 = _ from g4)
      subst hss
      obtain ⟨rfl, hss⟩ := ret_some (show ret (Fl.ret x) _ = _ from f2)
      subst hss
      exact k
  · have hie : i = ds.length := by omega
    subst hie
    refine .inl ⟨wk.2 (Nat.le_refl _), ?_⟩
    rw [List.drop_length] at el
    unfold forLoop at el
    obtain ⟨rfl, hss⟩ := ret_some el
    subst hss
    exact k Mu2 σ2 H2 J2 (st1.tr st2)

theorem x_for {t : T} {it : I} {keep : List Nat} {body : Ss} {tg iter : Expr} {b : List Stmt} {pos : Pos} (O : XOkS call fs N X) (h1 : chkT N X.env.scope (fun _ => true) t tg = true) (h2 : chkI N fs X.env.scope it tg iter = true) (h3 : setB iter = false) (hb : PSs X b (tS sw (execs call fuel body))) :
    PS X (.For tg iter b [] pos) (tS sw (exec call fuel (.for_ t it keep body))) := by
  have pf := ps_for (pos := pos) (by rw [O.xe]; exact PassesOwn.never) O.calm ((sI (sw := sw) it).pi false X tg iter O.toXOk h2) (pg_t (sw := sw) O.names O.nd O.calm rfl O.fnT t tg h1) hb (folded_of h3)
  refine ⟨fun pins s σ H De I h => ?_⟩
  obtain ⟨Mu0, H0, Mu, env, src, fl, src', J, e0, k⟩ := h
  unfold exec at e0
  split at e0
  · exact (stuck_some e0).elim
  rename_i hlk
  obtain ⟨ds, s1, e1, e2⟩ := bnd_some e0
  rcases lock_or (it := it) J.je with lk | ⟨i, a, u, kvs, hl, hk, hσ, ha, hu, off⟩
  · exact pf.run pins s σ H De I (for_go J lk e1 e2 k)
  · have hfrz : env[i]? = some (.frz (.dict kvs)) := by
      rcases hk with hk | hk
      · exact hk
      · exfalso
        apply hlk
        unfold wantsLock
        rw [hl]
        simp only [hk]
    have nm : ¬ Mu a := by
      obtain ⟨v, q1, q2⟩ := J.je.slot i _ hfrz
      rw [hσ] at q1
      cases q1
      cases q2 with
      | dK n1 _ _ => exact n1
      | dT _ n1 _ _ => exact n1
    have mu : Mut (some u) := by rcases hu with ⟨ks, rfl⟩ | ⟨ks, rfl⟩ <;> trivial
    refine (ps_lock pf).run pins s σ H De I ⟨a, u, ha, mu, fun od => ?_⟩
    refine for_go (js_lock (od := od) J ha hu nm off) (fun j hj kvs' _ => by
      rw [hl] at hj
      cases hj
      exact ⟨a, od, u, hσ, upd_same⟩) e1 e2 ?_
    cases fl with
    | next env' =>
      intro Mu' σ' H' J' st'
      have nm' : ¬ Mu' a := fun z => by
        rcases st'.new a z with q | q
        · exact nm q
        · rw [upd_same] at q; cases q
      have ha' : H' a = some (.frz od u) := st'.fix a _ upd_same (.inl nm)
      exact ⟨ha', k Mu' σ' (upd H' a u) (js_unlock J ha hu nm off J' nm' ha') (stp_unlock ha ha' st')⟩
    | ret d =>
      intro v H' E S R
      have ha' : H' a = some (.frz od u) := E a _ upd_same off
      have offs : ∀ p, sw = some p → p.1 ≠ a ∧ p.2 ≠ a := fun p hp => ⟨fun z => (off p hp).1 z.symm, fun z => (off p hp).2 z.symm⟩
      refine ⟨ha', k v (upd H' a u) (fun b o hb hof => ?_) (src_upd S offs) (R.keeps (lk_off ha' hu).keeps)⟩
      by_cases e : b = a
      · subst e
        have := J.ext b o hb hof
        rw [ha] at this
        rw [upd_same]
        exact this
      · rw [upd_ne e]
        exact E b o (by rw [upd_ne e]; exact hb) hof

theorem x_while {c : E} {keep : List Nat} {body : Ss} {e : Expr} {b : List Stmt} {pos : Pos} (O : XOkS call fs N X) (hc : chk N fs X.env.scope c e = true) (hb : PSs X b (tS sw (execs call fuel body))) :
    PS X (.While e b [] pos) (tS sw (exec call fuel (.while_ c keep body))) := by
  have pw := ps_while (pos := pos) (by rw [O.xe]; exact PassesOwn.never) ((sE (sw := sw) c).pt X e O.toXOk hc) hb
  refine ps_imp pw fun De σ H ⟨Mu0, H0, Mu, env, src, fl, src', J, e0, k⟩ => ?_
  unfold exec at e0
  refine ⟨fun m σ2 H2 => ∃ (Mu2 : Addr → Prop) (env2 : Ev) (s2 : Src), JS sw Mu0 H0 Mu2 env2 σ2 H2 s2 ∧ Stp Mu H Mu2 H2 ∧
    whileLoop (fun σ1 => bnd (ev call false c σ1) fun d => match d with
      | .bool true => bnd (execs call fuel body σ1) fun fl => (match fl with
        | .next σ3 => ret (some (.next (keepE keep σ3)))
        | .ret x => ret (some (.ret x)))
      | .bool false => ret none
      | _ => stuck) m env2 s2 = some (fl, src'), ⟨fuel, Mu, _, src, J.keep keep, Stp.refl, e0⟩, ?_⟩
  rintro m σ2 H2 ⟨Mu2, env2, s2, J2, st2, el⟩
  cases m with
  | zero => exact (stuck_some el).elim
  | succ m =>
    unfold whileLoop at el
    obtain ⟨o, s3, f1, f2⟩ := bnd_some el
    obtain ⟨d, s4, g1, g2⟩ := bnd_some f1
    cases d with
    | bool t =>
      refine ⟨Mu2, env2, s2, t, s4, J2.je, g1, fun H3 E3 S3 => ?_⟩
      have J3 := J2.ext' E3 S3
      have st3 : Stp Mu H Mu2 H3 := st2.tr (Stp.of_ext E3 J2.je.swm J2.je.src S3)
      cases t with
      | true =>
        refine Eq.mpr (if_pos rfl) ?_
        obtain ⟨fl2, s5, g3, g4⟩ := bnd_some (show bnd (execs call fuel body env2) _ s4 = _ from g2)
        refine ⟨fun σ' H' => ∃ (Mu2 : Addr → Prop) (env2 : Ev) (s2 : Src), JS sw Mu0 H0 Mu2 env2 σ' H' s2 ∧ Stp Mu H Mu2 H' ∧
          whileLoop (fun σ1 => bnd (ev call false c σ1) fun d => match d with
            | .bool true => bnd (execs call fuel body σ1) fun fl => (match fl with
              | .next σ3 => ret (some (.next (keepE keep σ3)))
              | .ret x => ret (some (.ret x)))
            | .bool false => ret none
            | _ => stuck) m env2 s2 = some (fl, src'), fun σ' H' w => ⟨m, Nat.lt_succ_self m, w⟩, ?_⟩
        refine ⟨Mu0, H0, Mu2, env2, s4, fl2, s5, J3, g3, ?_⟩
        cases fl2 with
        | next env4 =>
          obtain ⟨rfl, hss⟩ := ret_some (show ret (some (Fl.next (keepE keep env4))) s5 = _ from g4)
          subst hss
          exact fun Mu' σ' H' J' st' => ⟨Mu', _, _, J'.keep keep, st3.tr st', f2⟩
        | ret x =>
          obtain ⟨rfl, hss⟩ := ret_some (show ret (some (Fl.ret x)) s5 = _ from g4)
          subst hss
          obtain ⟨rfl, hss⟩ := ret_some (show ret (Fl.ret x) _ = _ from f2)
          subst hss
          exact k
      | false =>
        refine Eq.mpr (if_neg Bool.false_ne_true) ?_
        obtain ⟨rfl, hss⟩ := ret_some (show ret Option.none s4 = _ from g2)
        subst hss
        obtain ⟨rfl, hss⟩ := ret_some (show ret (Fl.next env2) _ = _ from f2)
        subst hss
        exact k Mu2 σ2 H3 J3 st3
    | _ => exact (stuck_some g2).elim

theorem xs_nil : PSs X [] (tS sw (execs call fuel .nil)) := ⟨fun pins s σ H D I ⟨Mu0, H0, Mu, env, src, fl, src', J, e0, k⟩ => by
  obtain ⟨rfl, hss⟩ := ret_some (show ret (Fl.next env) src = _ from e0)
  subst hss
  exact pss_nil.run pins s σ H D I (k Mu σ H J Stp.refl)⟩
theorem xs_cons {st : S} {r : Ss} {t : Stmt} {ts : List Stmt} (h1 : PS X t (tS sw (exec call fuel st))) (h2 : PSs X ts (tS sw (execs call fuel r))) : PSs X (t :: ts) (tS sw (execs call fuel (.cons st r))) :=
  ⟨fun pins s σ H D I ⟨Mu0, H0, Mu, env, src, fl, src', J, e0, k⟩ => by
    obtain ⟨fl1, s1, e1, e2⟩ := bnd_some (show bnd (exec call fuel st env) _ src = _ from e0)
    refine (pss_cons h1 h2).run pins s σ H D I ⟨Mu0, H0, Mu, env, src, fl1, s1, J, e1, ?_⟩
    cases fl1 with
    | next env' => exact fun Mu' σ' H' J' st' => ⟨Mu0, H0, Mu', env', s1, fl, src', J', e2, fl_pre st' k⟩
    | ret x =>
      obtain ⟨rfl, hss⟩ := ret_some (show ret (Fl.ret x) s1 = _ from e2)
      subst hss
      exact k⟩
theorem xs_freeze {i : Nat} {r : Ss} {ts : List Stmt} (h2 : PSs X ts (tS sw (execs call fuel r))) : PSs X ts (tS sw (execs call fuel (.cons (.freeze i) r))) :=
  ⟨fun pins s σ H D I ⟨Mu0, H0, Mu, env, src, fl, src', J, e0, k⟩ => by
    obtain ⟨fl1, s1, e1, e2⟩ := bnd_some (show bnd (exec call fuel (.freeze i) env) _ src = _ from e0)
    unfold exec at e1
    obtain ⟨rfl, hss⟩ := ret_some e1
    subst hss
    refine h2.run pins s σ H D I ?_
    cases q : env[i]? with
    | none =>
      simp only [q] at e2
      exact ⟨Mu0, H0, Mu, env, _, fl, src', J, e2, k⟩
    | some sl =>
      cases sl with
      | own d =>
        simp only [q] at e2
        obtain ⟨Mu', J', st'⟩ := js_freeze J q
        exact ⟨Mu0, H0, Mu', _, _, fl, src', J', e2, fl_pre st' k⟩
      | _ =>
        simp only [q] at e2
        exact ⟨Mu0, H0, Mu, env, _, fl, src', J, e2, k⟩⟩
end
end Mp

/-! L3w: d.update(e); x += e, x -= e. -/
namespace Mp
open PySem L2 PyProof.Rows PySem.W

section
variable {X : Cx} {sw : Sw} {call : Call} {fs : List String} {N : List Str} {fuel : Nat}
theorem own_dict {Mu : Addr → Prop} {H : Hp} {a : Addr} {kvs : List (D × D)} (h : Own Mu H a (.dict kvs)) (nf : NoF H a) :
    (∃ ks, H a = some (.dK ks) ∧ RepK Mu H ks kvs) ∨ (kvs ≠ [] ∧ ∃ ks, H a = some (.dT ks) ∧ RepT Mu H ks kvs) := by
  cases h with
  | dK h1 h2 => exact .inl ⟨_, h1.elim id fun ⟨o, z⟩ => absurd z (nf o _), h2⟩
  | dT h0 h1 h2 => exact .inr ⟨h0, _, h1.elim id fun ⟨o, z⟩ => absurd z (nf o _), h2⟩
theorem repT_fold {Mu : Addr → Prop} {H : Hp} : ∀ {more : List (List Key × V)} {ks : List (List Key × V)} {ds md es : List (D × D)}, RepT Mu H ks ds → RepT Mu H more md → dputs ds md = some es →
    RepT Mu H (more.foldl (fun acc p => putK acc p.1 p.2) ks) es
  | [], _, _, _, _, h, r, e => by
    cases r
    cases e
    exact h
  | q :: more, ks, ds, _, es, h, r, e => by
    cases r with
    | cons hv t =>
      unfold dputs at e
      split at e
      · have z := repT_fold (h.put _ hv) t e
        exact z
      · cases e
theorem repK_keys {Mu : Addr → Prop} {H : Hp} : ∀ {ks : List (Key × V)} {kvs : List (D × D)}, RepK Mu H ks kvs → ∀ p ∈ kvs, isTupKey p.1 = false
  | _, _, .nil, _, hp => nomatch hp
  | _, _, .cons _ t, p, hp => by
    rcases List.mem_cons.mp hp with rfl | hp
    · exact isTup_keyD _
    · exact repK_keys t p hp
theorem repT_keys {Mu : Addr → Prop} {H : Hp} : ∀ {ks : List (List Key × V)} {kvs : List (D × D)}, RepT Mu H ks kvs → ∀ p ∈ kvs, isTupKey p.1 = true
  | _, _, .nil, _, hp => nomatch hp
  | _, _, .cons _ t, p, hp => by
    rcases List.mem_cons.mp hp with rfl | hp
    · exact isTup_tkeyD _
    · exact repT_keys t p hp
theorem hashOk_keys {P : Program} {w : World} {Mu : Addr → Prop} {H : Hp} {ks : List (List Key × V)} {kvs : List (D × D)} (r : RepT Mu H ks kvs) (h : hashOk kvs = true) : ((ks.map (·.1)).map (tupleKeyHash (mixKind P w))).Nodup := by
  unfold hashOk at h
  split at h
  · rename_i nss hn
    rw [rowsOf_T r hn, List.map_map]
    have : (tupleKeyHash (mixKind P w) ∘ fun ns : List Int => ns.map Sum.inl) = thash := funext fun ns => hash_rows ns
    rw [this]
    exact of_decide_eq_true h
  · cases h
theorem rd_upd {Mu : Addr → Prop} {H : Hp} {b : Addr} {u o' : HO} (m : Mu b) (h : H b = some u) (nt : ∀ xs, u ≠ .tup xs) : Keeps Mu H Mu (upd H b o') := by
  have ne : ∀ c, ¬ Mu c → c ≠ b := fun c hc z => hc (z ▸ m)
  have rd : ∀ c u, ¬ Mu c → Rd H c u → Rd (upd H b o') c u := fun c u hc r => r.elim (fun r => .inl (by rw [upd_ne (ne c hc)]; exact r)) fun ⟨o, r⟩ => .inr ⟨o, by rw [upd_ne (ne c hc)]; exact r⟩
  refine ⟨fun c u hc r => ⟨hc, by rw [upd_ne (ne c hc)]; exact r⟩, fun c u hc r => ⟨hc, rd c _ hc r⟩, fun c u hc r => ⟨hc, rd c _ hc r⟩, fun c u hc => ?_⟩
  rw [upd_ne (fun z => by rw [z, h] at hc; exact nt _ (Option.some.inj hc))]
  exact hc
theorem dputs_ne' {md ds es : List (D × D)} (e : dputs ds md = some es) (h : ds ≠ [] ∨ md ≠ []) : es ≠ [] := dputs_ne e h

theorem x_update {x : Nat} {e : E} {l a : Expr} {ap cp pos : Pos} (O : XOkS call fs N X) (hs : slotIs N X.env.scope x l = true) (he : chk N fs X.env.scope e a = true)
    (hst : starredB a = false) (hl : (ap.endLine == cp.line) = true) : PS X (.Expr (.Call (.Attribute l (sN "update") ap) [a] [] cp) pos) (tS sw (exec call fuel (.mut .update x e))) := by
  obtain ⟨nm, p, rfl, x1, x2, x3, x4⟩ := slotIs_of hs
  have hN := O.names
  subst hN
  have pa : PA X [a] (tCons (tE sw call false e) tNil) := pa_cons ((sE e).pe false X a O.toXOk he) pa_nil (star_head hst)
  have few : ((backTo cp (starEach [a] X.env)).all (fun x => !x.1) && (backToKw cp (keywordEach [] X.env)).all (fun x => x.1.isSome) && decide (([a] : List Expr).length + ([] : List Keyword).length + (if ([] : List Keyword).isEmpty then 0 else 1) < 30)) = true := by
    rw [star_head hst]; rfl
  have q := ps_expr (pos := pos) (pe_bm PySem.F.plainAttrs_dict PySem.F.slot_dict_update PySem.F.type_dict_update (mt_update (by have := O.units; omega)) (pe_var (pos := p) (i := x) x1 x2 x3 x4) pa (base_of rfl) few hl (star_head hst) rfl) rfl
  refine ⟨fun pins s σ H D I ⟨Mu0, H0, Mu, env, src, fl, src', J, e0, k⟩ => ?_⟩
  obtain ⟨d, s1, e1, e2⟩ := bnd_some (show bnd (ev call false e env) _ src = _ from e0)
  cases ho : ownAt env x with
  | none =>
    simp only [ho] at e2
    exact (stuck_some e2).elim
  | some d0 =>
    simp only [ho] at e2
    obtain ⟨d1, s2, e3, e4⟩ := bnd_some e2
    obtain ⟨e5, hss⟩ := lft_some e3
    subst hss
    obtain ⟨rfl, rfl⟩ := ret_some e4
    obtain ⟨hx, b, hσ, mb, offb, ob, nfb⟩ := own_slot J ho
    cases d0 with
    | dict kvs =>
      cases d with
      | dict more =>
        have e5' : (if ((!kvs.isEmpty || more.all (fun p => !isTupKey p.1) || hashOk more) && decide (kvs.length + more.length ≤ lim)) = true then (dputs kvs more).map .dict else none) = some d1 := e5
        split at e5'
        · rename_i hc
          rw [Bool.and_eq_true, decide_eq_true_eq, lim_eq] at hc
          obtain ⟨es, hes, rfl⟩ := Option.map_eq_some_iff.mp e5'
          have ty : tyV X.K "dict" (.ref b) H := .inr (.inr (.inl ⟨rfl, (own_dict ob nfb).imp (fun ⟨ks, h, _⟩ => ⟨ks, h⟩) fun ⟨_, ks, h, _⟩ => ⟨ks, h⟩⟩))
          refine q.run pins s σ H D I ⟨.ref b, hσ, ty, Mu, env, src, _, _, J.je, e1, fun v H1 E S R fr => ?_⟩
          have J1 := J.ext' E S
          obtain ⟨_, b', hσ', _, _, ob1, nf1⟩ := own_slot J1 ho
          rw [hσ] at hσ'
          cases hσ'
          obtain ⟨o, rfl, ro⟩ := (RepB.of (b := true) (sw := sw) R.strict).dictN
          have nmo : ¬ Mu o := by
            cases R.strict with
            | dK h1 _ _ => exact h1
            | dT _ h1 _ _ => exact h1
          have hne : b ≠ o := fun z => nmo (z ▸ mb)
          have own1 := own_dict ob1 nf1
          -- the end
          have fin : ∀ (o' u : HO), H1 b = some u → (∀ xs, u ≠ .tup xs) → (∀ o w, o' ≠ .frz o w) → Own Mu (upd H1 b o') b (.dict es) → D.nx σ (upd H1 b o') := fun o' u hu nt nf4 ho4 => by
            obtain ⟨J4, st⟩ := J1.mut (o' := o') hx hσ hu nt ho4 nf4
            exact k Mu σ _ J4 ((Stp.of_ext E J.je.swm J.je.src S).trans J1.je.dom st)
          have asK : ∀ ks mk, RepK Mu H1 ks kvs → RepK Mu H1 mk more → KRd H1 b ks → KRd H1 o mk → rUpdate X (.ref b) [.ref o] H1 fun _ H2 => D.nx σ H2 := fun ks mk r1 r2 c1 c2 => by
            refine ⟨b, o, rfl, rfl, hne, own1.imp (fun ⟨l, h, _⟩ => ⟨l, h⟩) fun ⟨_, l, h, _⟩ => ⟨l, h⟩, .inl ⟨ks, mk, c1, c2, by rw [r1.length, r2.length]; exact hc.2, ?_⟩⟩
            have z : ∀ u, H1 b = some u → (∀ xs, u ≠ .tup xs) → D.nx σ (upd H1 b (.dK (mergeK ks mk))) := fun u hu nt => fin _ u hu nt (by simp) (.dK (.inl upd_same) (RepK.keeps (rd_upd mb hu nt) (r1.puts r2 hes)))
            rcases own1 with ⟨l, h, _⟩ | ⟨_, l, h, _⟩
            · exact z _ h (by simp)
            · exact z _ h (by simp)
          have asT : ∀ ks mk, RepT Mu H1 ks kvs → RepT Mu H1 mk more → TRd H1 b ks → TRd H1 o mk → es ≠ [] → rUpdate X (.ref b) [.ref o] H1 fun _ H2 => D.nx σ H2 := fun ks mk r1 r2 c1 c2 en => by
            refine ⟨b, o, rfl, rfl, hne, own1.imp (fun ⟨l, h, _⟩ => ⟨l, h⟩) fun ⟨_, l, h, _⟩ => ⟨l, h⟩, .inr ⟨ks, mk, c1, c2, by rw [r1.length, r2.length]; exact hc.2, ?_, ?_⟩⟩
            · by_cases h0 : ks = []
              · right
                subst h0
                cases r1
                rw [Bool.or_eq_true, Bool.or_eq_true] at hc
                rcases hc.1 with (h | h) | h
                · exact absurd h (by simp)
                · cases r2 with
                  | nil => exact List.nodup_nil
                  | cons _ _ =>
                    rw [List.all_cons, Bool.and_eq_true, isTup_tkeyD] at h
                    exact absurd h.1 (by simp)
                · exact hashOk_keys r2 h
              · exact .inl h0
            · have z : ∀ u, H1 b = some u → (∀ xs, u ≠ .tup xs) → D.nx σ (upd H1 b (.dT (mk.foldl (fun acc p => putK acc p.1 p.2) ks))) := fun u hu nt => fin _ u hu nt (by simp) (.dT en (.inl upd_same) (RepT.keeps (rd_upd mb hu nt) (repT_fold r1 r2 hes)))
              rcases own1 with ⟨l, h, _⟩ | ⟨_, l, h, _⟩
              · exact z _ h (by simp)
              · exact z _ h (by simp)
          rcases own1 with ⟨ks, hb, rk⟩ | ⟨h0, ks, hb, rk⟩
          · rcases ro with ⟨mk, hm, rm⟩ | ⟨m0, mk, hm, rm⟩
            · exact asK ks mk rk rm (.inl (.inl hb)) (.inl hm)
            · cases rk with
              | nil => exact asT [] mk .nil rm (.inr ⟨rfl, .inl hb⟩) (.inl hm) (dputs_ne hes (.inr m0))
              | cons hv t =>
                cases rm with
                | nil => exact absurd rfl m0
                | cons hv2 t2 =>
                  have := dputs_kind (c := false) hes (by simp) (repK_keys (RepK.cons hv t)) _ (.head _)
                  rw [isTup_tkeyD] at this
                  cases this
          · rcases ro with ⟨mk, hm, rm⟩ | ⟨m0, mk, hm, rm⟩
            · cases rm with
              | nil => exact asT ks [] rk .nil (.inl (.inl hb)) (.inr ⟨rfl, hm⟩) (dputs_ne hes (.inl h0))
              | cons hv2 t2 =>
                have := dputs_kind (c := true) hes h0 (repT_keys rk) _ (.head _)
                rw [isTup_keyD] at this
                cases this
            · exact asT ks mk rk rm (.inl (.inl hb)) (.inl hm) (dputs_ne hes (.inl h0))
        · cases e5'
      | _ => cases e5
    | _ => cases d <;> cases e5

theorem x_aug {o : BOp} {i : Nat} {e : E} {x : Str} {a : Expr} {p pos : Pos} (O : XOkS call fs N X) (hi : N[i]? = some x) (hl : locB X.env.scope x = true) (ho : (match o with | .add => true | .sub => true | _ => false) = true) (he : chk N fs X.env.scope e a = true) :
    PS X (.AugAssign (.Name x p) (pyB o) a pos) (tS sw (exec call fuel (.aug o i e))) := by
  have hN := O.names
  subst hN
  have qe := (sE (sw := sw) e).pe false X a O.toXOk he
  refine ⟨fun pins s σ H D I ⟨Mu0, H0, Mu, env, src, fl, src', J, e0, k⟩ => ?_⟩
  obtain ⟨d, s1, e1, e2⟩ := bnd_some (show bnd (lft (rdSlot false env i)) _ src = _ from e0)
  obtain ⟨e3, hss⟩ := lft_some e1
  subst hss
  obtain ⟨d', s2, e4, e5⟩ := bnd_some e2
  cases d with
  | int v =>
    cases d' with
    | int w =>
      obtain ⟨r, s3, e6, e7⟩ := bnd_some (show bnd (lft (bop o (.int v) (.int w))) _ s2 = _ from e5)
      obtain ⟨e8, hss⟩ := lft_some e6
      subst hss
      obtain ⟨efl, hss⟩ := ret_some e7
      subst hss
      subst efl
      obtain ⟨hs, ev0⟩ : env[i]? = some (.frz (.int v)) ∧ σ[i]? = some (some (.int v)) := by
        unfold rdSlot at e3
        split at e3
        · rename_i d0 hd
          obtain rfl := Option.some.inj e3
          obtain ⟨y, h1, h2⟩ := J.je.slot i _ hd
          cases h2
          exact ⟨hd, h1⟩
        · cases e3
        · cases e3
      have fin : ∀ (z : Int), r = .int z → ∀ H1, ExtS sw H H1 → SrcOk sw H1 src' → D.nx (σ.set i (some (.int z))) H1 := fun z hz H1 E S => by
        subst hz
        have J1 := J.ext' E S
        have hil : i < σ.length := (List.getElem?_eq_some_iff.mp ev0).1
        exact k Mu _ _ (J1.setF i hil (.int z)) (Stp.of_ext E J.je.swm J.je.src S)
      cases o with
      | add =>
        refine (ps_aug O.nd hi (loc_of hl) qe ip_add (.inl (by rw [O.fnT]))).run pins s σ H D I ⟨.int v, ev0, Mu, env, s1, _, _, J.je, e4, fun y H1 E S R _ => ?_⟩
        obtain rfl := R.int
        exact ⟨v, w, rfl, rfl, fin _ (Option.some.inj (show some (PyData.int (v + w)) = some r from e8)).symm H1 E S⟩
      | sub =>
        refine (ps_aug O.nd hi (loc_of hl) qe ip_sub (.inl (by rw [O.fnT]))).run pins s σ H D I ⟨.int v, ev0, Mu, env, s1, _, _, J.je, e4, fun y H1 E S R _ => ?_⟩
        obtain rfl := R.int
        exact ⟨v, w, rfl, rfl, fin _ (Option.some.inj (show some (PyData.int (v - w)) = some r from e8)).symm H1 E S⟩
      | _ => cases ho
    | _ => exact (stuck_some e5).elim
  | _ => cases d' <;> exact (stuck_some e5).elim
end
end Mp

/-! L3v: all statements; a def. -/
namespace Mp
open PySem L2 PyProof.Rows PySem.W

section
variable {sw : Sw} {call : Call} {fs : List String} {N : List Str} {fuel : Nat}
mutual
theorem sSt (X : Cx) (O : XOkS call fs N X) : ∀ (s : S) (st : Stmt), chkS N fs X.env.scope s st = true → PS X st (tS sw (exec call fuel s))
  | .pass, st, h => x_pass h
  | .assign i o e, st, h => by
    unfold chkS at h
    split at h
    · simp only [Bool.and_eq_true, decide_eq_true_eq, Bool.or_eq_true, Bool.not_eq_true'] at h
      obtain ⟨⟨⟨h1, h2⟩, h3⟩, h4⟩ := h
      exact x_assign O h1 h2 h3 fun ho => h4.resolve_left (by rw [ho]; simp)
    · cases h
  | .assigns is es, st, h => by
    unfold chkS at h
    split at h
    · simp only [Bool.and_eq_true, decide_eq_true_eq] at h
      obtain ⟨⟨⟨⟨h1, h2⟩, h3⟩, h4⟩, h5⟩ := h
      rw [Bool.or_eq_true, Bool.and_eq_true, decide_eq_true_eq] at h4
      rcases h4 with h4 | ⟨h4, h6⟩
      · exact x_assigns O h1 h2 h3 h4 h5
      · exact x_assignsC O h2 h3 h4 h6
    · cases h
  | .unpack t e, st, h => by
    unfold chkS at h
    split at h
    · simp only [Bool.and_eq_true, Bool.not_eq_true'] at h
      obtain ⟨⟨⟨⟨h1, h2⟩, h3⟩, h4⟩, h5⟩ := h
      exact x_unpack O h1 h2 h3 h4 h5
    · cases h
  | .pop t x at_, st, h => by
    unfold chkS at h
    split at h
    · simp only [Bool.and_eq_true, decide_eq_true_eq] at h
      obtain ⟨⟨⟨⟨⟨h1, h2⟩, h3⟩, h4⟩, h5⟩, h6⟩ := h
      obtain rfl := eq_of_beq h3
      exact x_pop O h1 h2 h4 h5 h6
    · simp only [Bool.and_eq_true, decide_eq_true_eq, Bool.not_eq_true'] at h
      obtain ⟨⟨⟨⟨⟨⟨⟨h1, h2⟩, h3⟩, h4⟩, h5⟩, h6⟩, h7⟩, h8⟩ := h
      obtain rfl := eq_of_beq h3
      exact x_popAt O h1 h2 h4 h5 h6 h7 h8
    · cases h
  | .dpop _ _, st, h => by unfold chkS at h; cases h
  | .mut m x e, st, h => by
    unfold chkS at h
    split at h
    · simp only [Bool.and_eq_true, Bool.not_eq_true'] at h
      obtain ⟨⟨⟨⟨h1, h2⟩, h3⟩, h4⟩, h5⟩ := h
      by_cases hu : m = .update
      · subst hu
        obtain rfl := eq_of_beq h1
        exact x_update O h2 h3 h4 h5
      · exact x_append O (by cases m <;> first | exact h1 | exact absurd rfl hu) h2 h3 h4 h5
    · cases h
  | .appPop _ _ _, st, h => by unfold chkS at h; cases h
  | .setItem x k v, st, h => by
    unfold chkS at h
    split at h
    · simp only [Bool.and_eq_true] at h
      exact x_set O h.1.1.1 h.1.1.2 h.1.2
    · cases h
  | .aug o i e, st, h => by
    unfold chkS at h
    split at h
    · simp only [Bool.and_eq_true, decide_eq_true_eq] at h
      obtain ⟨⟨⟨⟨h1, h2⟩, h3⟩, h4⟩, h5⟩ := h
      subst h3
      exact x_aug O h1 h2 h4 h5
    · cases h
  | .source i k, st, h => ⟨fun pins s σ H D I ⟨Mu0, H0, Mu, env, src, fl, src', J, e0, kk⟩ => (stuck_some (show (stuck : M Fl) src = _ from e0)).elim⟩
  | .freeze _, st, h => by unfold chkS at h; cases h
  | .if_ c a b, st, h => by
    unfold chkS at h
    split at h
    · simp only [Bool.and_eq_true] at h
      exact x_if ((sE c).pt X _ O.toXOk h.1.1) (sSts X O a _ h.1.2) (sSts X O b _ h.2)
    · cases h
  | .for_ t it keep body, st, h => by
    unfold chkS at h
    split at h
    · simp only [Bool.and_eq_true, Bool.not_eq_true'] at h
      exact x_for O h.1.1.1 h.1.1.2 h.1.2 (sSts X O body _ h.2)
    · cases h
  | .while_ c keep body, st, h => by
    unfold chkS at h
    split at h
    · simp only [Bool.and_eq_true] at h
      exact x_while O h.1 (sSts X O body _ h.2)
    · cases h
  | .ret e, st, h => by
    unfold chkS at h
    split at h
    · exact x_ret O h
    · cases h
theorem sSts (X : Cx) (O : XOkS call fs N X) : ∀ (ss : Ss) (sts : List Stmt), chkSs N fs X.env.scope ss sts = true → PSs X sts (tS sw (execs call fuel ss))
  | .nil, sts, h => by
    unfold chkSs at h
    split at h
    · exact xs_nil
    · cases h
  | .cons (.freeze i) r, sts, h => by
    have h' : chkSs N fs X.env.scope r sts = true := by
      unfold chkSs at h
      exact h
    exact xs_freeze (sSts X O r sts h')
  | .cons .pass r, sts, h => by
    cases sts with
    | nil => unfold chkSs at h; cases h
    | cons st sts => unfold chkSs at h; rw [Bool.and_eq_true] at h; exact xs_cons (sSt X O _ st h.1) (sSts X O r sts h.2)
  | .cons (.assign i o e) r, sts, h => by
    cases sts with
    | nil => unfold chkSs at h; cases h
    | cons st sts => unfold chkSs at h; rw [Bool.and_eq_true] at h; exact xs_cons (sSt X O _ st h.1) (sSts X O r sts h.2)
  | .cons (.assigns is es) r, sts, h => by
    cases sts with
    | nil => unfold chkSs at h; cases h
    | cons st sts => unfold chkSs at h; rw [Bool.and_eq_true] at h; exact xs_cons (sSt X O _ st h.1) (sSts X O r sts h.2)
  | .cons (.unpack t e) r, sts, h => by
    cases sts with
    | nil => unfold chkSs at h; cases h
    | cons st sts => unfold chkSs at h; rw [Bool.and_eq_true] at h; exact xs_cons (sSt X O _ st h.1) (sSts X O r sts h.2)
  | .cons (.pop t x a) r, sts, h => by
    cases sts with
    | nil => unfold chkSs at h; cases h
    | cons st sts => unfold chkSs at h; rw [Bool.and_eq_true] at h; exact xs_cons (sSt X O _ st h.1) (sSts X O r sts h.2)
  | .cons (.dpop x k) r, sts, h => by
    cases sts with
    | nil => unfold chkSs at h; cases h
    | cons st sts => unfold chkSs at h; rw [Bool.and_eq_true] at h; exact xs_cons (sSt X O _ st h.1) (sSts X O r sts h.2)
  | .cons (.mut m x e) r, sts, h => by
    cases sts with
    | nil => unfold chkSs at h; cases h
    | cons st sts => unfold chkSs at h; rw [Bool.and_eq_true] at h; exact xs_cons (sSt X O _ st h.1) (sSts X O r sts h.2)
  | .cons (.appPop x y a) r, sts, h => by
    cases sts with
    | nil => unfold chkSs at h; cases h
    | cons st sts => unfold chkSs at h; rw [Bool.and_eq_true] at h; exact xs_cons (sSt X O _ st h.1) (sSts X O r sts h.2)
  | .cons (.setItem x k v) r, sts, h => by
    cases sts with
    | nil => unfold chkSs at h; cases h
    | cons st sts => unfold chkSs at h; rw [Bool.and_eq_true] at h; exact xs_cons (sSt X O _ st h.1) (sSts X O r sts h.2)
  | .cons (.aug o i e) r, sts, h => by
    cases sts with
    | nil => unfold chkSs at h; cases h
    | cons st sts => unfold chkSs at h; rw [Bool.and_eq_true] at h; exact xs_cons (sSt X O _ st h.1) (sSts X O r sts h.2)
  | .cons (.source i k) r, sts, h => by
    cases sts with
    | nil => unfold chkSs at h; cases h
    | cons st sts => unfold chkSs at h; rw [Bool.and_eq_true] at h; exact xs_cons (sSt X O _ st h.1) (sSts X O r sts h.2)
  | .cons (.if_ c a b) r, sts, h => by
    cases sts with
    | nil => unfold chkSs at h; cases h
    | cons st sts => unfold chkSs at h; rw [Bool.and_eq_true] at h; exact xs_cons (sSt X O _ st h.1) (sSts X O r sts h.2)
  | .cons (.for_ t it keep body) r, sts, h => by
    cases sts with
    | nil => unfold chkSs at h; cases h
    | cons st sts => unfold chkSs at h; rw [Bool.and_eq_true] at h; exact xs_cons (sSt X O _ st h.1) (sSts X O r sts h.2)
  | .cons (.while_ c keep body) r, sts, h => by
    cases sts with
    | nil => unfold chkSs at h; cases h
    | cons st sts => unfold chkSs at h; rw [Bool.and_eq_true] at h; exact xs_cons (sSt X O _ st h.1) (sSts X O r sts h.2)
  | .cons (.ret e) r, sts, h => by
    cases sts with
    | nil => unfold chkSs at h; cases h
    | cons st sts => unfold chkSs at h; rw [Bool.and_eq_true] at h; exact xs_cons (sSt X O _ st h.1) (sSts X O r sts h.2)
end
end
end Mp

/-! L4a: the defs of a program, all at once. -/
namespace Mp
open PySem L2 PyProof.Rows PySem.W

/-- a whole number that a draw may be made of -/
def pickOk (m : Int) : Bool := decide (-(2 ^ 62) ≤ m ∧ m < 1073741824)
/-- some things in a drawn order -/
def mixed : Nat → List D → List D → M (List D)
  | 0, _, acc => ret acc
  | n + 1, rest, acc => fun s =>
    let p := pick s rest.length
    match rest[p.1.toNat]? with
    | none => none
    | some d => mixed n (rest.eraseIdx p.1.toNat) (acc ++ [d]) p.2
def prim (n : Nat) : String → Bool → List D → Option (M D)
  | "_law_pick", b, ds => some (match b, ds with
    | true, [.int m] => if pickOk m then fun s => some (.int (pick s m).1, (pick s m).2) else stuck
    | _, _ => stuck)
  | "_law_mixed", b, ds => some (match b, ds with
    | true, [.list xs] => if n ≠ 0 ∧ xs.length < 1000000 then bnd (mixed xs.length xs []) fun ys => ret (.list ys) else stuck
    | _, _ => stuck)
  | _, _, _ => none
def fuelW : Nat := 2 ^ 40
def entry (fn : Fn) (b : Bool) (ds : List D) : Ev := (if b then [.src] else []) ++ ds.map .frz ++ List.replicate (fn.names.length - (ds.length + b.toNat)) .no
def callN (Γ : String → Option Fn) : Nat → Call
  | 0 => fun _ _ _ => stuck
  | n + 1 => fun f b ds => match prim n f b ds with
    | some m => m
    | none => match Γ f with
      | some fn => if fn.src == b && decide (ds.length + b.toNat = fn.arity) then bnd (execs (callN Γ n) fuelW fn.body (entry fn b ds)) fun fl => match fl with | .ret d => ret d | .next _ => ret .none else stuck
      | none => stuck

/-- what is known of the text of a def -/
structure Txt (K : PySem.W.Frag) (mg : Str → Option Value) (fs : List String) (f : String) (fn : Fn) (st : Stmt) : Prop where
  ex : ∃ (fa : Addr) (fd : FuncData), Fun K (sN f) (sN f) st fa fd ∧ mg (sN f) = some (.ref fa) ∧ Binds K fd ((fn.names.map sN).take fn.arity) [] ∧ FnScope (fn.names.map sN) ((fn.names.map sN).take fn.arity) (defScope st) ∧ fn.arity ≤ fn.names.length ∧
    chkSs (fn.names.map sN) fs (defScope st) fn.body (defBody st) = true

/-- a def at level n keeps its promise -/
def DefOk (P : Program) (w : World) (K : PySem.W.Frag) (mg : Str → Option Value) (base : Heap) (call : Call) (n : Nat) (f : String) : Prop :=
  ∃ fa fd ps, mg (sN f) = some (.ref fa) ∧ PySem.W.keepIn K (.ref fa) = true ∧ FnG P w K mg base n fa fd ps (spF call f ps.length) ∧ Binds K fd ps [] ∧ ∀ b ds s r, call f b ds s = some r → ds.length + b.toNat = ps.length

section
variable {P : Program} {w : World} {K : PySem.W.Frag} {mg : Str → Option Value} {base : Heap} {fs : List String} {Γ : String → Option Fn}

theorem entry_js {sw : Sw} {Mu : Addr → Prop} {H : Hp} {src : Src} {fn : Fn} {b : Bool} {ds : List D} {vs ws : List V} (so : SrcOk sw H src) (sm : SwIn sw Mu) (dom : ∀ a, Mu a → H a ≠ none) (hv : match b with | true => ∃ p, sw = some p ∧ vs = .ref p.1 :: ws | false => vs = ws)
    (r : RepAll Mu H ws ds) (hl : ds.length + b.toNat ≤ fn.names.length) : JS sw Mu H Mu (entry fn b ds) (start (fn.names.map sN) vs) H src := by
  have lw := r.length
  -- the arguments' slots
  have args : ∀ {ws : List V} {ds : List D}, RepAll Mu H ws ds → ∀ (i : Nat) sl, (ds.map Slot.frz)[i]? = some sl → ∃ v d, sl = .frz d ∧ ws[i]? = some v ∧ Rep Mu H v d := by
    intro ws ds r
    induction ds generalizing ws with
    | nil => intro i sl h; simp at h
    | cons d ds ih =>
      intro i sl h
      cases r with
      | cons r1 r2 =>
        cases i with
        | zero => simp at h; exact ⟨_, d, h.symm, rfl, r1⟩
        | succ i =>
          obtain ⟨v, d', h1, h2, h3⟩ := ih r2 i sl (by simpa using h)
          exact ⟨v, d', h1, by simpa using h2, h3⟩
  have vl : vs.length = ds.length + b.toNat := by
    cases b with
    | true => obtain ⟨p, _, rfl⟩ := hv; simp [lw]
    | false => obtain rfl := hv; simp [lw]
  have slot : ∀ (i : Nat) sl, (entry fn b ds)[i]? = some sl → sl = .no ∨ (b = true ∧ i = 0 ∧ sl = .src) ∨ ∃ v d, sl = .frz d ∧ vs[i]? = some v ∧ Rep Mu H v d := by
    intro i sl h
    unfold entry at h
    cases b with
    | false =>
      obtain rfl := hv
      rw [if_neg Bool.false_ne_true, List.nil_append] at h
      by_cases hi : i < ds.length
      · rw [List.getElem?_append_left (by simpa using hi)] at h
        exact .inr (.inr (args r i sl h))
      · rw [List.getElem?_append_right (by simpa using hi), List.getElem?_replicate] at h
        split at h
        · exact .inl (Option.some.inj h).symm
        · cases h
    | true =>
      obtain ⟨p, hp, rfl⟩ := hv
      rw [if_pos rfl, List.append_assoc, List.singleton_append] at h
      cases i with
      | zero => exact .inr (.inl ⟨rfl, rfl, (by simpa using h.symm)⟩)
      | succ i =>
        rw [List.getElem?_cons_succ] at h
        by_cases hi : i < ds.length
        · rw [List.getElem?_append_left (by simpa using hi)] at h
          obtain ⟨v, d, h1, h2, h3⟩ := args r i sl h
          exact .inr (.inr ⟨v, d, h1, by simpa using h2, h3⟩)
        · rw [List.getElem?_append_right (by simpa using hi), List.getElem?_replicate] at h
          split at h
          · exact .inl (Option.some.inj h).symm
          · cases h
  have st : ∀ (i : Nat) v, vs[i]? = some v → (start (fn.names.map sN) vs)[i]? = some (some v) := fun i v h => by
    have hi : i < vs.length := (List.getElem?_eq_some_iff.mp h).1
    unfold L2.start
    rw [List.getElem?_append_left (by simpa using hi), List.getElem?_map, h]
    rfl
  have noOwn : ∀ (i : Nat) d, (entry fn b ds)[i]? ≠ some (.own d) := fun i d h => by
    rcases slot i _ h with z | ⟨_, _, z⟩ | ⟨_, _, z, _⟩ <;> cases z
  refine ⟨⟨?_, so, sm, dom, fun i sl h => ?_⟩, dom, fun _ h => h, ExtS.refl sw H, fun i d h => (noOwn i d h).elim, fun i j d d' a _ h => (noOwn i d h).elim⟩
  · unfold entry L2.start
    simp only [List.length_append, List.length_map, List.length_replicate, vl]
    cases b <;> simp <;> omega
  · rcases slot i sl h with rfl | ⟨rfl, rfl, rfl⟩ | ⟨v, d, rfl, h1, h2⟩
    · trivial
    · obtain ⟨p, hp, rfl⟩ := hv
      exact ⟨p, hp, st 0 _ rfl⟩
    · exact ⟨v, st i v h1, h2⟩

theorem defs_ok (kit : ∀ x ∈ kitNames, mg (sN x) = none) (txt : ∀ f ∈ fs, (∀ n b ds, prim n f b ds = none) → ∃ fn st, Γ f = some fn ∧ Txt K mg fs f fn st) (prims : ∀ f ∈ fs, (f = "_law_pick" ∨ f = "_law_mixed") → ∀ n, (∀ g ∈ fs, DefOk P w K mg base (callN Γ n) n g) → DefOk P w K mg base (callN Γ (n + 1)) (n + 1) f)
    (zero : ∀ f ∈ fs, DefOk P w K mg base (callN Γ 0) 0 f) : ∀ n, ∀ f ∈ fs, DefOk P w K mg base (callN Γ n) n f := by
  intro n
  induction n with
  | zero => exact zero
  | succ n ih =>
    intro f hf
    have dec : (∀ n b ds, prim n f b ds = none) ∨ (f = "_law_pick" ∨ f = "_law_mixed") := by
      by_cases h1 : f = "_law_pick"
      · exact .inr (.inl h1)
      · by_cases h2 : f = "_law_mixed"
        · exact .inr (.inr h2)
        · refine .inl fun n b ds => ?_
          unfold prim
          split
          · exact absurd rfl h1
          · exact absurd rfl h2
          · rfl
    rcases dec with hp | hp
    · obtain ⟨fn, st, hΓ, ⟨fa, fd, F, hm, hb, S, har, hchk⟩⟩ := txt f hf hp
      have lenP : ((fn.names.map sN).take fn.arity).length = fn.arity := by rw [List.length_take, List.length_map]; omega
      have step : ∀ b ds s, callN Γ (n + 1) f b ds s = (if (fn.src == b && decide (ds.length + b.toNat = fn.arity)) = true then bnd (execs (callN Γ n) fuelW fn.body (entry fn b ds)) (fun fl => match fl with | .ret d => ret d | .next _ => ret .none) s else none) := fun b ds s => by
        simp only [callN, hp, hΓ]
        split <;> rfl
      have ar : ∀ b ds s r, callN Γ (n + 1) f b ds s = some r → ds.length + b.toNat = ((fn.names.map sN).take fn.arity).length := fun b ds s r h => by
        rw [step] at h
        split at h
        · rename_i hc
          rw [Bool.and_eq_true, decide_eq_true_eq] at hc
          rw [lenP]
          exact hc.2
        · cases h
      refine ⟨fa, fd, _, hm, F.kp, ?_, hb, ar⟩
      obtain ⟨oc, od, kV, doc, pm, an, cdv, ct, osl, rfl, lk, hcd⟩ := F.ex
      refine fnG_of (N := fn.names.map sN) lk hcd S (fun vs H Q E h => h.1) fun A outer s H vs Q E hr hg hsp => ?_
      obtain ⟨hvl, sw, Mu, b, ws, ds, src, d, src', so, sm, dom, hv, rr, hcall, k⟩ := hsp
      have O : XOkS (callN Γ n) fs (fn.names.map sN) (cxOf CX0 P w K mg base (fn.names.map sN) (sN f) (defScope st) fa cdv A outer s H E).nox := by
        refine ⟨⟨rfl, S.nd, rfl, hg, ?_, kit, fun g hg' => ?_⟩, rfl, S.kind, rfl⟩
        · have := hr.un
          show (A.deeper _).units + 200 < cLine
          omega
        · obtain ⟨fa', fd', ps', h1, h2, h3, h4, h5⟩ := ih g hg'
          exact ⟨n, fa', fd', ps', h1, h2, h3, hr, h4, h5⟩
      refine ⟨_, (sSts (sw := sw) (fuel := fuelW) _ O fn.body (defBody st) hchk).nox, ?_⟩
      rw [step] at hcall
      split at hcall
      · rename_i hc
        rw [Bool.and_eq_true, decide_eq_true_eq] at hc
        obtain ⟨fl, s1, e1, e2⟩ := bnd_some hcall
        have J := entry_js (fn := fn) so sm dom hv rr (by omega)
        refine ⟨Mu, H, Mu, _, src, fl, s1, J, e1, ?_⟩
        cases fl with
        | ret x =>
          obtain ⟨rfl, hss⟩ := ret_some (show ret x s1 = _ from e2)
          subst hss
          exact fun v H' E1 S1 R1 => k v H' E1 S1 R1
        | next env' =>
          obtain ⟨rfl, hss⟩ := ret_some (show ret PyData.none s1 = _ from e2)
          subst hss
          exact fun Mu' σ' H' J' st' => k .non H' J'.ext J'.je.src .non
      · cases hcall
    · exact prims f hf hp n ih
end
end Mp

/-! Q1 (a law's own part, the same text in each): the drawing's defs. -/
namespace Mp
open PySem L2 PyProof.Rows PySem.W

def topS (i : Nat) : Stmt := PySem.Challenge.pw_linkedlots_k15_whole_systems_and_papers.main.body.getD i (.Pass ⟨0, 0, 0, 0⟩)
abbrev sSource : Stmt := topS 9
abbrev sPick : Stmt := topS 10
abbrev sMixed : Stmt := topS 0

/-- the heap beside the source, and the source -/
structure AtS (H : Hp) (S C : Addr) (H' : Hp) (s : Src) : Prop where
  off : ∀ b o, H b = some o → b ≠ S → b ≠ C → H' b = some o
  at_ : SrcAt H' S C s
theorem AtS.refl {H : Hp} {S C : Addr} {s : Src} (h : SrcAt H S C s) : AtS H S C H s := ⟨fun _ _ h _ _ => h, h⟩
theorem AtS.upd_ {H H' : Hp} {S C : Addr} {s s' : Src} (h : AtS H S C H' s) (hc : s'.cells = s.cells) : AtS H S C (upd H' S (.dK (srcFs S C s'))) s' := by
  refine ⟨fun b o hb n1 n2 => by rw [upd_ne n1]; exact h.off b o hb n1 n2, ⟨h.at_.ne, upd_same, ?_⟩⟩
  rw [upd_ne h.at_.ne.symm, hc]
  exact h.at_.c
theorem AtS.pop_ {H H' : Hp} {S C : Addr} {s s' : Src} (h : AtS H S C H' s) (hl : s'.left = s.left) (hm : s'.mixed = s.mixed) (ht : s'.turn = s.turn) : AtS H S C (upd H' C (.lst (s'.cells.map V.int))) s' := by
  refine ⟨fun b o hb n1 n2 => by rw [upd_ne n2]; exact h.off b o hb n1 n2, ⟨h.at_.ne, ?_, upd_same⟩⟩
  rw [upd_ne h.at_.ne, h.at_.d]
  unfold srcFs
  rw [hl, hm, ht]

def NP : List Str := ["source", "many", "left", "mixed"]
def PP : List Str := ["source", "many"]
theorem scP : FnScope NP PP (defScope sPick) := ⟨rfl, rfl, rfl, by decide +kernel, rfl, by decide +kernel, by decide +kernel⟩

theorem src_get {H : Hp} {S C : Addr} {s : Src} (h : SrcAt H S C s) : DGet H S (.str "cells") (some (.ref C)) ∧ DGet H S (.str "left") (some (.int s.left)) ∧ DGet H S (.str "mixed") (some (.int s.mixed)) ∧ DGet H S (.str "turn") (some (.int s.turn)) := by
  refine ⟨?_, ?_, ?_, ?_⟩
  · exact DGet.k (k := Sum.inr "cells") h.d
  · exact DGet.k (k := Sum.inr "left") h.d
  · exact DGet.k (k := Sum.inr "mixed") h.d
  · exact DGet.k (k := Sum.inr "turn") h.d
theorem src_put {H : Hp} {S C : Addr} {s : Src} (h : SrcAt H S C s) : (∀ i, DPut H S (.str "left") (.int i) (upd H S (.dK (srcFs S C { s with left := i })))) ∧ (∀ i, DPut H S (.str "mixed") (.int i) (upd H S (.dK (srcFs S C { s with mixed := i })))) ∧ (∀ i, DPut H S (.str "turn") (.int i) (upd H S (.dK (srcFs S C { s with turn := i })))) := by
  refine ⟨fun i => ?_, fun i => ?_, fun i => ?_⟩
  · exact DPut.k (k := Sum.inr "left") (v := .int i) h.d (show 4 < sizeLine by decide)
  · exact DPut.k (k := Sum.inr "mixed") (v := .int i) h.d (show 4 < sizeLine by decide)
  · exact DPut.k (k := Sum.inr "turn") (v := .int i) h.d (show 4 < sizeLine by decide)

section
variable {P : Program} {w : World} {K : PySem.W.Frag} {mg : Str → Option Value} {base : Heap} {Γ : String → Option Fn}
theorem pick_body {X : Cx} (hN : X.N = NP) (hs : X.env.scope = defScope sPick) (hu : X.A.units + 1 < cLine) (hc : X.calm = true) (hx : X.xe = fun _ _ => False) (hf : X.fn = fun _ => true) (kit : ∀ x ∈ kitNames, X.mg (sN x) = none) :
    ∃ t, PSs X (defBody sPick) t ∧ ∀ (S C : Addr) (m : Int) (s : Src) (H : Hp) (Q : VK) (E : Ends), pickOk m = true → SrcAt H S C s → E.rt = Q → (∀ H', AtS H S C H' (pick s m).2 → Q (.int (pick s m).1) H') → t E (start NP [.ref S, .int m]) H := by
  have m1 : X.mg "max" = none := kit "max" (by decide)
  have m2 : X.mg "len" = none := kit "len" (by decide)
  have m3 : X.mg "int" = none := kit "int" (by decide)
  have g1 : Gl X "max" := by show X.env.scope.names.lookup _ = _; rw [hs]; rfl
  have g2 : Gl X "len" := by show X.env.scope.names.lookup _ = _; rw [hs]; rfl
  have g3 : Gl X "int" := by show X.env.scope.names.lookup _ = _; rw [hs]; rfl
  have nd : X.N.Nodup := by rw [hN]; exact scP.nd
  have v0 : ∀ {pos : Pos}, PE X (.Name "source" pos) (tVar 0) := pe_var (by rw [hN]; rfl) (.inl (by rw [hs]; rfl))
  have v1 : ∀ {pos : Pos}, PE X (.Name "many" pos) (tVar 1) := pe_var (by rw [hN]; rfl) (.inl (by rw [hs]; rfl))
  have v2 : ∀ {pos : Pos}, PE X (.Name "left" pos) (tVar 2) := pe_var (by rw [hN]; rfl) (.inl (by rw [hs]; rfl))
  have v3 : ∀ {pos : Pos}, PE X (.Name "mixed" pos) (tVar 3) := pe_var (by rw [hN]; rfl) (.inl (by rw [hs]; rfl))
  have ns : ∀ {x : Str} {j : Nat} {p : Pos}, NoSl (.Constant (.str x) j p) := fun _ _ => rfl
  have gd : ∀ {x : Str} {j : Nat} {p q r : Pos}, PE X (.Subscript (.Name "source" q) (.Constant (.str x) j p) r) (tDGet (tVar 0) (tC (.str x))) := pe_dget hu v0 pe_str ns
  have st2 : ∀ {e : Expr} {te : TE} {p q : Pos}, PE X e te → swapsWith e (some (.Name "left" p)) q.line X.env = pure false → PS X (.Assign [.Name "left" p] e q) (tAsg te (gName 2)) := fun h hs' => ps_set nd (by rw [hN]; rfl) (.inl (by rw [hs]; rfl)) h hs' (.inl (by rw [hf]))
  have st3 : ∀ {e : Expr} {te : TE} {p q : Pos}, PE X e te → swapsWith e (some (.Name "mixed" p)) q.line X.env = pure false → PS X (.Assign [.Name "mixed" p] e q) (tAsg te (gName 3)) := fun h hs' => ps_set nd (by rw [hN]; rfl) (.inl (by rw [hs]; rfl)) h hs' (.inl (by rw [hf]))
  have mx : ∀ {p q r : Pos} {j : Nat} {s : Pos}, PE X (.Call (.Name "max" p) [.Constant (.int 1) j s, .Name "many" q] [] r) (tCB _ (tCons (tC (.int 1)) (tCons (tVar 1) tNil))) := pe_callB (call_max2 hc) g1 m1 (by decide +kernel) (pa_cons pe_int (pa_cons v1 pa_nil))
  have it : ∀ {e : Expr} {te : TE} {p r : Pos}, PE X e te → starredB e = false → PE X (.Call (.Name "int" p) [e] [] r) (tCB _ (tCons te tNil)) := fun h hst => pe_callTy call_int1 g3 m3 (by decide +kernel) (pa_cons h pa_nil (star_head hst)) (he := star_head hst)
  have mxv : max 1 (1 : Int) = 1 := rfl
  -- what stands behind the loop
  have tail : ∃ u, PSs X ((defBody sPick).drop 1) u ∧ ∀ (S C : Addr) (m : Int) (s s2 : Src) (H H2 : Hp) (Q : VK) (E : Ends), pickOk m = true → AtS H S C H2 s2 → E.rt = Q → s2.mixed = s.mixed → s2.turn = s.turn →
      (if 1 < m then feed s.cells s.left s.cells.length else (s.cells, s.left)) = (s2.cells, s2.left) → (∀ H', AtS H S C H' (pick s m).2 → Q (.int (pick s m).1) H') → u E (L2.start NP [.ref S, .int m]) H2 := by
    refine ⟨_, pss_cons (st2 gd rfl)
      (pss_cons (ps_if ((pw_or (pt_cmpR op_lt v1 pe_int rfl) (pw_or1 (pt_cmpR op_gt v2 pe_int rfl))).pt)
        (pss_cons (ps_dput hu v0 pe_str (pe_op op_fdiv v2 mx) rfl) (pss_one (ps_ret (pe_op op_mod (it v2 rfl) mx)))) pss_nil)
      (pss_cons (ps_dput hu v0 pe_str (pe_op op_add gd pe_int) rfl)
      (pss_cons (st3 (pe_op op_mod (it (pe_op op_add gd (pe_op op_mul gd pe_int)) rfl) pe_int) rfl)
      (pss_cons (st3 (pe_op op_mod (it (pe_op op_add (pe_op op_mul v3 v3) (pe_op op_mul gd pe_int)) rfl) pe_int) rfl)
      (pss_cons (ps_dput hu v0 pe_str v3 rfl)
      (pss_one (ps_ret (pe_op op_mod (it (pe_op op_fdiv v3 pe_int) rfl) v1)))))))), ?_⟩
    intro S C m s s2 H H2 Q E hm a2 hE e1 e2 e3 hQ
    have mr := of_decide_eq_true hm
    have g := src_get a2.at_
    have pk : pick s m = (if m < 2 ∨ 1 < s2.left then (s2.left % max 1 m, { s with cells := s2.cells, left := s2.left / max 1 m }) else
        ((((s.mixed + (s.turn + 1) * 104729) % 998244353 * ((s.mixed + (s.turn + 1) * 104729) % 998244353) + (s.turn + 1) * 17) % 2147483647) / 16 % m,
          { cells := s2.cells, left := s2.left, mixed := ((s.mixed + (s.turn + 1) * 104729) % 998244353 * ((s.mixed + (s.turn + 1) * 104729) % 998244353) + (s.turn + 1) * 17) % 2147483647, turn := s.turn + 1 })) := by
      unfold pick
      rw [e3]
    have mxe : (if m > 1 then m else 1) = max 1 m := by rw [Int.max_def]; split <;> split <;> omega
    -- left = source["left"]
    refine ⟨.ref S, rfl, S, _, rfl, g.2.1, ?_⟩
    -- the first way out
    have out1 : (m < 2 ∨ 1 < s2.left) → ∀ (E' : Ends), E'.rt = Q → ∀ σ : L2.St, σ = [some (.ref S), some (.int m), some (.int s2.left), none] → (tSeq (sDPut (tVar 0) (tC (.str "left")) (tOp (rI CDiv fun i j => V.int (i / j)) (tVar 2) (tCB (fun xs H Q => ∃ i j, xs = [V.int i, V.int j] ∧ Q (V.int (if j > i then j else i)) H) (tCons (tC (V.int 1)) (tCons (tVar 1) tNil)))))
        (tRet (tOp (rI (fun x j => 0 < j) fun i j => V.int (i % j)) (tCB (fun xs H Q => (∃ i, xs = [V.int i] ∧ Q (V.int i) H) ∨ ∃ k, xs = [V.bl k] ∧ Q (V.int (if k = true then 1 else 0)) H) (tCons (tVar 2) tNil))
          (tCB (fun xs H Q => ∃ i j, xs = [V.int i, V.int j] ∧ Q (V.int (if j > i then j else i)) H) (tCons (tC (V.int 1)) (tCons (tVar 1) tNil)))))) E' σ H2 := by
      rintro hc1 E' hE' σ rfl
      have pos : 0 < max 1 m := by omega
      refine ⟨.int s2.left, rfl, .int m, rfl, 1, m, rfl, s2.left, _, rfl, rfl, ?_, ?_⟩
      · rw [mxe]; exact ⟨pos, by omega⟩
      refine ⟨.ref S, rfl, S, _, rfl, (src_put a2.at_).1 _, ?_⟩
      rw [mxe]
      refine ⟨.int s2.left, rfl, .inl ⟨s2.left, rfl, .int m, rfl, 1, m, rfl, s2.left, _, rfl, rfl, ?_, ?_⟩⟩
      · rw [mxe]; exact pos
      rw [mxe, hE']
      rw [pk, if_pos hc1] at hQ
      refine hQ _ ?_
      have a3 := a2.upd_ (s' := { s2 with left := s2.left / max 1 m }) rfl
      have : ({ s2 with left := s2.left / max 1 m } : Src) = { s with cells := s2.cells, left := s2.left / max 1 m } := by rw [← e1, ← e2]
      rw [← this]
      exact a3
    refine ⟨.int m, rfl, m, 2, rfl, rfl, _, rfl, ?_⟩
    by_cases h1 : m < 2
    · rw [decide_eq_true h1]
      refine Eq.mpr (if_pos rfl) ?_
      refine Eq.mpr (if_pos rfl) ?_
      exact out1 (.inl h1) _ hE _ rfl
    · rw [decide_eq_false h1]
      refine Eq.mpr (if_neg Bool.false_ne_true) ?_
      refine ⟨.int s2.left, rfl, s2.left, 1, rfl, rfl, _, rfl, ?_⟩
      by_cases h2 : 1 < s2.left
      · rw [decide_eq_true h2]
        refine Eq.mpr (if_pos rfl) ?_
        exact out1 (.inr h2) _ hE _ rfl
      · rw [decide_eq_false h2]
        refine Eq.mpr (if_neg Bool.false_ne_true) ?_
        rw [pk, if_neg (fun z => z.elim h1 h2)] at hQ
        refine ⟨.ref S, rfl, S, _, rfl, g.2.2.2, s2.turn, 1, rfl, rfl, .ref S, rfl, S, _, rfl, (src_put a2.at_).2.2 _, ?_⟩
        have a3 := a2.upd_ (s' := { s2 with turn := s2.turn + 1 }) rfl
        have g3 := src_get a3.at_
        refine ⟨.ref S, rfl, S, _, rfl, g3.2.2.1, .ref S, rfl, S, _, rfl, g3.2.2.2, s2.turn + 1, 104729, rfl, rfl, .inr ⟨by decide, by decide⟩, s2.mixed, _, rfl, rfl, .inl ⟨_, rfl, _, _, rfl, rfl, (show (0 : Int) < 998244353 by decide), ?_⟩⟩
        have b0 : 0 ≤ (s2.mixed + (s2.turn + 1) * 104729) % 998244353 := Int.emod_nonneg _ (by decide)
        have b1 : (s2.mixed + (s2.turn + 1) * 104729) % 998244353 < 998244353 := Int.emod_lt_of_pos _ (by decide)
        refine ⟨.int _, rfl, .int _, rfl, _, _, rfl, rfl, .inl ⟨by omega, by omega⟩, .ref S, rfl, S, _, rfl, g3.2.2.2, s2.turn + 1, 17, rfl, rfl, .inr ⟨by decide, by decide⟩, _, _, rfl, rfl, .inl ⟨_, rfl, _, _, rfl, rfl, (show (0 : Int) < 2147483647 by decide), ?_⟩⟩
        refine ⟨.int _, rfl, .ref S, rfl, S, _, rfl, (src_put a3.at_).2.1 _, ?_⟩
        refine ⟨.int _, rfl, _, 16, rfl, rfl, ⟨by decide, by decide⟩, .inl ⟨_, rfl, .int m, rfl, _, m, rfl, rfl, by omega, ?_⟩⟩
        rw [hE, e1, e2]
        refine hQ _ ?_
        have a4 := a3.upd_ (s' := { s2 with turn := s2.turn + 1, mixed := ((s2.mixed + (s2.turn + 1) * 104729) % 998244353 * ((s2.mixed + (s2.turn + 1) * 104729) % 998244353) + (s2.turn + 1) * 17) % 2147483647 }) rfl
        rw [e1, e2] at a4
        exact a4
  obtain ⟨u, hu1, hu2⟩ := tail
  refine ⟨_, pss_cons (ps_while (by rw [hx]; exact PassesOwn.never)
      ((pw_and (pt_cmpR op_gt v1 pe_int rfl) (pw_and (pt_cmpR op_lt gd pe_int rfl) (pw_and1 (pt_cmpR op_gt (pe_callB call_len_seq g2 m2 (by decide +kernel) (pa_cons gd pa_nil)) pe_int rfl)))).pt)
      (pss_one (ps_dput hu v0 pe_str (pe_bm0 PySem.F.plainAttrs_list PySem.F.slot_list_pop PySem.F.type_list_pop mt_pop gd) rfl))) hu1, ?_⟩
  intro S C m s H Q E hm hS hE hQ
  have mr := of_decide_eq_true hm
  refine ⟨fun k σ H' => σ = L2.start NP [.ref S, .int m] ∧ ∃ s' : Src, AtS H S C H' s' ∧ s'.mixed = s.mixed ∧ s'.turn = s.turn ∧ s'.cells.length = k ∧ (1 < m → feed s'.cells s'.left k = feed s.cells s.left s.cells.length) ∧ (¬ 1 < m → s' = s),
    ⟨s.cells.length, rfl, s, AtS.refl hS, rfl, rfl, rfl, fun _ => rfl, fun _ => rfl⟩, ?_⟩
  rintro k σ H1 ⟨rfl, s1, a1, em, et, el, ef, en⟩
  have g := src_get a1.at_
  have rest : (if 1 < m then feed s.cells s.left s.cells.length else (s.cells, s.left)) = (s1.cells, s1.left) → u E (L2.start NP [.ref S, .int m]) H1 := fun e3 => hu2 S C m s s1 H H1 Q E hm a1 hE em et e3 hQ
  refine ⟨.int m, rfl, m, 1, rfl, rfl, _, rfl, ?_⟩
  by_cases h1 : 1 < m
  · rw [decide_eq_true h1]
    refine Eq.mpr (if_pos rfl) ?_
    refine ⟨.ref S, rfl, S, _, rfl, g.2.1, s1.left, 2, rfl, rfl, _, rfl, ?_⟩
    have ef' := ef h1
    by_cases h2 : s1.left < 2
    · rw [decide_eq_true h2]
      refine Eq.mpr (if_pos rfl) ?_
      refine ⟨.ref S, rfl, S, _, rfl, g.1, C, _, rfl, .inl (SqL.of a1.at_.c), _, _, rfl, rfl, _, rfl, ?_⟩
      rw [List.length_map]
      by_cases h3 : (0 : Int) < (s1.cells.length : Nat)
      · rw [decide_eq_true h3]
        refine Eq.mpr (if_pos rfl) ?_
        have ne : s1.cells ≠ [] := fun z => by rw [z] at h3; simp at h3
        cases k with
        | zero => exact absurd (List.length_eq_zero_iff.mp el) ne
        | succ k =>
          have hlast : s1.cells[s1.cells.length - 1]? = some (s1.cells.getLastD 0) := by
            rw [← List.getLast?_eq_getElem?, List.getLastD_eq_getLast?]
            cases q : s1.cells.getLast? with
            | none => exact absurd (List.getLast?_eq_none_iff.mp q) ne
            | some y => rfl
          have step : feed s1.cells s1.left (k + 1) = feed s1.cells.dropLast (s1.cells.getLastD 0) k := by
            show (if s1.left < 2 ∧ s1.cells ≠ [] then _ else _) = _
            rw [if_pos ⟨h2, ne⟩]
          refine ⟨fun σ' H' => ∃ m', m' < k + 1 ∧ (σ' = L2.start NP [.ref S, .int m] ∧ ∃ s' : Src, AtS H S C H' s' ∧ s'.mixed = s.mixed ∧ s'.turn = s.turn ∧ s'.cells.length = m' ∧ (1 < m → feed s'.cells s'.left m' = feed s.cells s.left s.cells.length) ∧ (¬ 1 < m → s' = s)), fun _ _ h => h, ?_⟩
          refine ⟨.ref S, rfl, S, _, rfl, g.1, .inl ⟨rfl, _, SqL.of a1.at_.c⟩, C, s1.cells.map V.int, .int (s1.cells.getLastD 0), rfl, rfl, a1.at_.c, ?_, ?_⟩
          · rw [List.length_map, List.getElem?_map, hlast]; rfl
          · have a2 := a1.pop_ (s' := { s1 with cells := s1.cells.dropLast }) rfl rfl rfl
            rw [List.map_dropLast] at a2
            refine ⟨.ref S, rfl, S, _, rfl, (src_put a2.at_).1 _, ?_⟩
            refine ⟨k, Nat.lt_succ_self k, rfl, _, a2.upd_ (s' := { s1 with cells := s1.cells.dropLast, left := s1.cells.getLastD 0 }) rfl, em, et, ?_, fun _ => ?_, fun z => absurd h1 z⟩
            · show s1.cells.dropLast.length = k
              rw [List.length_dropLast, el]; omega
            · rw [← ef', step]
      · rw [decide_eq_false h3]
        refine Eq.mpr (if_neg Bool.false_ne_true) ?_
        refine rest ?_
        rw [if_pos h1, ← ef']
        have e0 : s1.cells = [] := by
          cases q : s1.cells with
          | nil => rfl
          | cons _ _ => rw [q] at h3; exact absurd (by simp) h3
        cases k with
        | zero => rfl
        | succ k => rw [e0] at el; cases el
    · rw [decide_eq_false h2]
      refine Eq.mpr (if_neg Bool.false_ne_true) ?_
      refine Eq.mpr (if_neg Bool.false_ne_true) ?_
      refine rest ?_
      rw [if_pos h1, ← ef']
      cases k with
      | zero => rfl
      | succ k =>
        show (if s1.left < 2 ∧ s1.cells ≠ [] then _ else _) = _
        rw [if_neg (fun z => h2 z.1)]
  · rw [decide_eq_false h1]
    refine Eq.mpr (if_neg Bool.false_ne_true) ?_
    refine Eq.mpr (if_neg Bool.false_ne_true) ?_
    refine rest ?_
    rw [if_neg h1, en h1]
theorem pick_ok {fs : List String} {fa : Addr} {fd : FuncData} (F : Fun K (sN "_law_pick") (sN "_law_pick") sPick fa fd) (hm : mg (sN "_law_pick") = some (.ref fa)) (hb : Binds K fd PP []) (kit : ∀ x ∈ kitNames, mg (sN x) = none) (n : Nat) : DefOk P w K mg base (callN Γ (n + 1)) (n + 1) "_law_pick" := by
  have step : ∀ b ds s r, callN Γ (n + 1) "_law_pick" b ds s = some r → ∃ m, b = true ∧ ds = [.int m] ∧ pickOk m = true ∧ r = (.int (pick s m).1, (pick s m).2) := fun b ds s r h => by
    have h' : (match b, ds with | true, [.int m] => if pickOk m then (fun s => some (.int (pick s m).1, (pick s m).2) : M D) else stuck | _, _ => stuck) s = some r := h
    split at h'
    · rename_i m
      split at h'
      · rename_i ho
        exact ⟨m, rfl, rfl, ho, (Option.some.inj h').symm⟩
      · cases h'
    · cases h'
  refine ⟨fa, fd, PP, hm, F.kp, ?_, hb, fun b ds s r h => ?_⟩
  · obtain ⟨oc, od, kV, doc, pm, an, cdv, ct, osl, rfl, lk, hcd⟩ := F.ex
    refine fnG_of (N := NP) lk hcd scP (fun vs H Q E h => h.1) fun A outer s H vs Q E hr hg hsp => ?_
    obtain ⟨hvl, sw, Mu, b, ws, ds, src, d, src', so, sm, dom, hv, rr, hcall, k⟩ := hsp
    obtain ⟨m, rfl, rfl, ho, er⟩ := step _ _ _ _ hcall
    cases er
    obtain ⟨p, hp, rfl⟩ := hv
    cases rr with
    | cons r1 r2 =>
      cases r1
      cases r2
      obtain ⟨t, ht, hq⟩ := pick_body (X := (cxOf CX0 P w K mg base NP (sN "_law_pick") (defScope sPick) fa cdv A outer s H E).nox) rfl rfl (by have := hr.un; show (A.deeper _).units + 1 < cLine; omega) rfl rfl rfl kit
      refine ⟨t, ht.nox, hq p.1 p.2 m src H Q _ ho (so p hp) rfl fun H' a => ?_⟩
      refine k _ H' (fun b o hb off => a.off b o hb (off p hp).1 (off p hp).2) (fun p' hp' => ?_) (.int _)
      rw [hp] at hp'
      cases hp'
      exact a.at_
  · obtain ⟨m, rfl, rfl, _, _⟩ := step _ _ _ _ h
    rfl
end
end Mp

/-! Q2: what a pick leaves. -/
namespace Mp
open PySem L2 PyProof.Rows PySem.W

theorem feed_len : ∀ (n : Nat) (cells : List Int) (left : Int), (feed cells left n).1.length ≤ cells.length
  | 0, cells, left => Nat.le_refl _
  | n + 1, cells, left => by
    unfold feed
    split
    · refine Nat.le_trans (feed_len n _ _) ?_
      rw [List.length_dropLast]; omega
    · exact Nat.le_refl _
theorem keeps_updG {M : Addr → Prop} {H : Hp} {a : Addr} {xs ys : List V} (m : M a) (h : H a = some (.lst xs)) : Keeps M H M (upd H a (.lst ys)) := by
  have ne : ∀ b, ¬ M b → b ≠ a := fun b hb z => hb (z ▸ m)
  have rd : ∀ b u, ¬ M b → Rd H b u → Rd (upd H a (.lst ys)) b u := fun b u hb r => r.elim (fun r => .inl (by rw [upd_ne (ne b hb)]; exact r)) fun ⟨o, r⟩ => .inr ⟨o, by rw [upd_ne (ne b hb)]; exact r⟩
  refine ⟨fun b u hb r => ⟨hb, by rw [upd_ne (ne b hb)]; exact r⟩, fun b u hb r => ⟨hb, rd b _ hb r⟩, fun b u hb r => ⟨hb, rd b _ hb r⟩, fun b u hb => ?_⟩
  rw [upd_ne (fun z => by rw [z, h] at hb; cases hb)]
  exact hb
theorem tyes_go {σ : L2.St} {H : Hp} {Q : Bool → Hp → Prop} (h : Q true H) : tYes σ H Q := h
theorem pick_lt (s : Src) (m : Int) : 0 ≤ (pick s m).1 ∧ (pick s m).1 < max 1 m := by
  unfold pick
  simp only
  split
  · split
    · exact ⟨Int.emod_nonneg _ (by omega), Int.emod_lt_of_pos _ (by omega)⟩
    · rename_i h
      have : 2 ≤ m := by omega
      exact ⟨Int.emod_nonneg _ (by omega), by have := Int.emod_lt_of_pos (a := (((s.mixed + (s.turn + 1) * 104729) % 998244353 * ((s.mixed + (s.turn + 1) * 104729) % 998244353) + (s.turn + 1) * 17) % 2147483647 / 16)) (show 0 < m by omega); omega⟩
  · split
    · exact ⟨Int.emod_nonneg _ (by omega), Int.emod_lt_of_pos _ (by omega)⟩
    · rename_i h
      have : 2 ≤ m := by omega
      exact ⟨Int.emod_nonneg _ (by omega), by have := Int.emod_lt_of_pos (a := (((s.mixed + (s.turn + 1) * 104729) % 998244353 * ((s.mixed + (s.turn + 1) * 104729) % 998244353) + (s.turn + 1) * 17) % 2147483647 / 16)) (show 0 < m by omega); omega⟩

end Mp

/-! Q3: the source of the drawing. -/
namespace Mp
open PySem L2 PyProof.Rows PySem.W

def NS : List Str := ["script", "mixed", "cell"]
def PSr : List Str := ["script"]
theorem scS : FnScope NS PSr (defScope sSource) := ⟨rfl, rfl, rfl, by decide +kernel, rfl, by decide +kernel, by decide +kernel⟩
def spSource (K : PySem.W.Frag) : Sp := fun vs H Q _ => ∃ (a : Addr) (ns : List Int), vs = [.ref a] ∧ SqL K H a (ns.map V.int) ∧ ns.length ≤ 63 ∧ ∀ S C H', S ≠ C → Same H H' → H S = none → H C = none → SrcAt H' S C (srcOf ns) → Q (.ref S) H'
def mixOf (ns : List Int) (m : Int) : Int := ns.foldl (fun m c => (m * 69069 + c * 31 + 5) % 2147483629) m
theorem same_upd {H : Hp} {p : Addr} {o : HO} (h : H p = none) : Same H (upd H p o) := same_new h
theorem abs_get (ns : List Int) : ∀ (i : Nat) (x : V), (ns.map V.int)[i]? = some x → ∃ n, ns[i]? = some n ∧ x = V.int n := fun i x h => by
  rw [List.getElem?_map] at h
  obtain ⟨n, h1, h2⟩ := Option.map_eq_some_iff.mp h
  exact ⟨n, h1, h2.symm⟩

section
variable {P : Program} {w : World} {K : PySem.W.Frag} {mg : Str → Option Value} {base : Heap}
theorem source_ok {fa : Addr} {fd : FuncData} (F : Fun K (sN "_law_source") (sN "_law_source") sSource fa fd) (kit : ∀ x ∈ kitNames, mg (sN x) = none) (n : Nat) : FnG P w K mg base (n + 1) fa fd PSr (spSource K) := by
  obtain ⟨oc, od, kV, doc, pm, an, cdv, ct, osl, rfl, lk, hcd⟩ := F.ex
  refine fnG_of (N := NS) lk hcd scS (fun vs H Q E h => by obtain ⟨a, ns, rfl, _⟩ := h; rfl) fun A outer s H vs Q E hr hg hsp => ?_
  obtain ⟨a, ns, rfl, hS, hl, k⟩ := hsp
  have m1 : mg "int" = none := kit "int" (by decide)
  have m2 : mg "abs" = none := kit "abs" (by decide)
  have absE : ∀ {X' : Cx} {q1 q2 q3 : Pos}, X'.mg = mg → X'.N = NS → Vis X'.env.scope "cell" → X'.env.kindOf "abs" = some .globalImplicit → PE X' (.Call (.Name "abs" q1) [.Name "cell" q2] [] q3) (tCB (fun xs H Q => ∃ i, xs = [V.int i] ∧ Q (V.int (if i < 0 then -i else i)) H) (tCons (tVar 2) tNil)) :=
    fun x1 x2 x3 x4 => pe_callB call_abs x4 (by rw [x1]; exact m2) (by decide +kernel) (pa_cons (pe_var (by rw [x2]; rfl) x3) pa_nil)
  refine ⟨_, PSs.nox (pss_cons (ps_set (i := 1) scS.nd rfl (.inl rfl) pe_int)
    (pss_cons (ps_for PassesOwn.never rfl (pi_list (pv 0)) (pg_name (i := 2) scS.nd rfl (Or.inl rfl))
      (pss_one (ps_set (i := 1) scS.nd rfl (.inl rfl) (pe_op op_mod (pe_callTy call_int1 rfl m1 (by decide +kernel) (pa_cons (pe_op op_add (pe_op op_add (pe_op op_mul (pv 1) pe_int) (pe_op op_mul (pv 2) pe_int)) pe_int) pa_nil)) pe_int))))
    (pss_one (ps_ret (pe_disp (pps_cons pe_str (pe_revL (pe_lc (own := [("cell", 2)]) (g := gName 2) (tt := tYes) rfl scS.nd (pi_list (pv 0)) (blkOk_by (show blkC NS (defScope sSource) _ _ = true from by decide +kernel)) (fun _ _ _ _ _ => pg_name (i := 2) scS.nd rfl (Or.inl rfl)) (fun _ _ _ _ _ => pts_nil)
        (fun _ _ _ _ _ => absE rfl rfl (.inl rfl) rfl)))
      (pps_cons pe_str pe_int (pps_cons pe_str (pv 1) (pps_cons pe_str pe_int pps_nil)))) rfl rfl (by simp) (by decide)))))), ?_⟩
  -- mixed = 11, the loop
  refine ⟨.ref a, rfl, a, rfl, ⟨_, hS⟩, for_list (xs := ns.map V.int) (fun i σ H' => ∃ x, σ = [some (.ref a), some (.int (mixOf (ns.take i) 11)), x] ∧ H' = H) ⟨none, rfl, rfl⟩ (fun i σ H' _ ⟨x, _, e⟩ => by rw [e]; exact hS) (fun i x σ H' hx ⟨y, eσ, eH⟩ => ?_) (fun σ H' ⟨x, eσ, eH⟩ => ?_)⟩
  · have eH' := eH.symm
    subst eσ eH'
    obtain ⟨c, hc, rfl⟩ := abs_get ns i x hx
    have b : (0 : Int) ≤ mixOf (ns.take i) 11 ∧ mixOf (ns.take i) 11 < 2147483629 := by
      have gen : ∀ (l : List Int) (m : Int), 0 ≤ m → m < 2147483629 → 0 ≤ mixOf l m ∧ mixOf l m < 2147483629 := by
        intro l
        induction l with
        | nil => intro m h1 h2; exact ⟨h1, h2⟩
        | cons z l ih => intro m h1 h2; exact ih _ (Int.emod_nonneg _ (by decide)) (Int.emod_lt_of_pos _ (by decide))
      exact gen _ _ (by decide) (by decide)
    refine ⟨.int _, rfl, _, 69069, rfl, rfl, .inr ⟨by decide, by decide⟩, .int c, rfl, c, 31, rfl, rfl, .inr ⟨by decide, by decide⟩, _, _, rfl, rfl, _, 5, rfl, rfl, .inl ⟨_, rfl, _, _, rfl, rfl, (show (0 : Int) < 2147483629 by decide), some (.int c), ?_, rfl⟩⟩
    have e : mixOf (ns.take (i + 1)) 11 = (mixOf (ns.take i) 11 * 69069 + c * 31 + 5) % 2147483629 := by
      unfold mixOf
      rw [List.take_add_one, hc, List.foldl_append]
      rfl
    rw [e]
    rfl
  · have eH' := eH.symm
    subst eσ eH'
    rw [List.length_map, List.take_length]
    intro S hSn
    have s1 : Same H (upd H S (.dK [])) := same_upd hSn
    refine ⟨.ref a, rfl, a, rfl, ⟨_, s1.seq hS⟩, fun Dp hD => ?_⟩
    have nSD : S ≠ Dp := fun z => by rw [← z, upd_same] at hD; cases hD
    have hDH : H Dp = none := by rw [upd_ne nSD.symm] at hD; exact hD
    refine lc_list (xs := ns.map V.int) (fun i H' => Same (upd H S (.dK [])) H' ∧ H' Dp = some (.lst (((ns.take i).map fun c => if c < 0 then -c else c).map V.int))) ⟨same_upd hD, upd_same⟩ (fun i H' _ p => p.1.seq (s1.seq hS)) (fun i x H' hx ⟨p1, p2⟩ => ?_) (fun H' ⟨p1, p2⟩ => ?_)
    · obtain ⟨c, hc, rfl⟩ := abs_get ns i x hx
      refine ⟨rfl, tyes_go ?_⟩
      refine Eq.mpr (if_pos rfl) ?_
      refine ⟨.int c, rfl, c, rfl, _, p2, ?_, ?_, ?_⟩
      · rw [List.length_map, List.length_map, List.length_take]
        exact Nat.lt_of_le_of_lt (Nat.min_le_right _ _) (Nat.lt_of_le_of_lt hl (by decide))
      · intro b o hb
        rw [upd_ne (fun z => by rw [z, hD] at hb; cases hb)]
        exact p1 b o hb
      · rw [upd_same, List.take_add_one, hc, List.map_append, List.map_append]
        rfl
    · rw [List.length_map, List.take_length] at p2
      refine ⟨Dp, _, rfl, SqL.of p2, fun C hC => ?_⟩
      have hS2 : H' S = some (.dK []) := p1 _ _ upd_same
      have nSC : S ≠ C := fun z => by rw [← z, hS2] at hC; cases hC
      have hCH : H C = none := by
        cases q : H C with
        | none => rfl
        | some u => rw [p1 C u (s1 C u q)] at hC; cases hC
      refine ⟨.int _, rfl, by rw [upd_ne nSC]; exact hS2, [(.inr "cells", .ref C), (.inr "left", .int 1), (.inr "mixed", .int (mixOf ns 11)), (.inr "turn", .int 0)], rfl, (show 4 ≤ 15 by decide), k S C _ nSC (fun b o hb => ?_) hSn hCH ⟨nSC, ?_, ?_⟩⟩
      · have n1 : b ≠ S := fun z => by rw [z, hSn] at hb; cases hb
        have n2 : b ≠ C := fun z => by rw [z, hCH] at hb; cases hb
        rw [upd_ne n1, upd_ne n2]
        exact p1 b o (s1 b o hb)
      · rw [upd_same]
        rfl
      · rw [upd_ne nSC.symm, upd_same]
        show some (HO.lst _) = some (HO.lst (((ns.map fun c => if c < 0 then -c else c).reverse).map V.int))
        rw [List.map_reverse]
end
end Mp

/-! G: the terms of this law's defs (printed by gen.py). -/
namespace Mp
open PySem L2
def f_is_number_under : Fn := { names := ["value", "many"], arity := 2, src := false, body := (.cons (.ret (.and_ (.isinst .int (.var 0)) (.and_ (.not_ (.isinst .bool (.var 0))) (.chain .le .lt (.int 0) (.var 0) (.var 1))))) .nil) }
def f_is_things_lot : Fn := { names := ["m", "value", "one", "k"], arity := 2, src := false, body := (.cons (.if_ (.or_ (.not_ (.isinst .tuple (.var 1))) (.not_ (.bf .all (.cons (.comp (.call "is_number_under" .none (.cons (.var 2) (.cons (.var 0) .nil))) (.name 2) (.over (.var 1)) (.bool true) [2]) .nil)))) (.cons (.ret (.bool false)) .nil) .nil) (.cons (.ret (.cmp .eq (.comp (.var 3) (.name 3) (.range2 (.int 1) (.bf .len (.cons (.var 1) .nil))) (.cmp .le (.idx (.var 1) (.var 3)) (.idx (.var 1) (.bin .sub (.var 3) (.int 1)))) [3]) (.lst .nil))) .nil)) }
def f_is_lots_form : Fn := { names := ["value", "m", "lots", "lot", "k"], arity := 1, src := false, body := (.cons (.if_ (.or_ (.not_ (.isinst .tuple (.var 0))) (.or_ (.cmp .ne (.bf .len (.cons (.var 0) .nil)) (.int 2)) (.or_ (.not_ (.isinst .tuple (.idx (.var 0) (.int 1)))) (.cmp .eq (.idx (.var 0) (.int 1)) (.tup .nil))))) (.cons (.ret (.bool false)) .nil) .nil) (.cons (.unpack (.tup [(.name 1), (.name 2)]) (.var 0)) (.cons (.if_ (.or_ (.not_ (.isinst .int (.var 1))) (.or_ (.isinst .bool (.var 1)) (.or_ (.cmp .lt (.var 1) (.int 1)) (.not_ (.bf .all (.cons (.comp (.call "is_things_lot" .none (.cons (.var 1) (.cons (.var 3) .nil))) (.name 3) (.over (.var 2)) (.bool true) [3]) .nil)))))) (.cons (.ret (.bool false)) .nil) .nil) (.cons (.ret (.cmp .eq (.comp (.var 4) (.name 4) (.range2 (.int 1) (.bf .len (.cons (.var 2) .nil))) (.cmp .le (.idx (.var 2) (.var 4)) (.idx (.var 2) (.bin .sub (.var 4) (.int 1)))) [4]) (.lst .nil))) .nil)))) }
def f_put_for : Fn := { names := ["lot", "a", "b", "one"], arity := 3, src := false, body := (.cons (.ret (.bf .tuple (.cons (.bf .sorted (.cons (.bin .add (.comp (.var 3) (.name 3) (.over (.var 0)) (.cmp .ne (.var 3) (.var 1)) [3]) (.lst (.cons (.var 2) .nil))) .nil)) .nil))) .nil) }
def f_system_paper : Fn := { names := ["pair", "lots", "known", "lot", "one", "other", "a", "b"], arity := 1, src := false, body := (.cons (.assign 1 false (.idx (.var 0) (.int 1))) (.cons (.assign 2 false (.bf .dict (.cons (.comp (.tup (.cons (.var 3) (.cons (.bool true) .nil))) (.name 3) (.over (.var 1)) (.bool true) [3]) .nil))) (.cons (.for_ (.name 4) (.over (.var 1)) [1, 2, 6, 7] (.cons (.if_ (.cmp .ne (.bf .len (.cons (.var 4) .nil)) (.bf .len (.cons (.idx (.var 1) (.int 0)) .nil))) (.cons (.ret (.tup (.cons (.str (sN "sizes")) (.cons (.idx (.var 1) (.int 0)) (.cons (.var 4) .nil))))) .nil) .nil) .nil)) (.cons (.for_ (.name 4) (.over (.var 1)) [1, 2, 6, 7] (.cons (.for_ (.name 5) (.over (.var 1)) [1, 2, 4, 6, 7] (.cons (.for_ (.name 6) (.over (.comp (.var 6) (.name 6) (.over (.var 4)) (.cmp .notin (.var 6) (.var 5)) [6])) [1, 2, 4, 5, 6, 7] (.cons (.if_ (.cmp .eq (.comp (.var 7) (.name 7) (.over (.var 5)) (.and_ (.cmp .notin (.var 7) (.var 4)) (.cmp .isin (.call "put_for" .none (.cons (.var 4) (.cons (.var 6) (.cons (.var 7) .nil)))) (.var 2))) [7]) (.lst .nil)) (.cons (.ret (.tup (.cons (.str (sN "exchange")) (.cons (.var 4) (.cons (.var 5) (.cons (.var 6) .nil)))))) .nil) .nil) .nil)) .nil)) .nil)) (.cons (.ret (.tup (.cons (.str (sN "system")) .nil))) .nil))))) }
def f_is_system : Fn := { names := ["value"], arity := 1, src := false, body := (.cons (.ret (.and_ (.call "is_lots_form" .none (.cons (.var 0) .nil)) (.cmp .eq (.call "system_paper" .none (.cons (.var 0) .nil)) (.tup (.cons (.str (sN "system")) .nil))))) .nil) }
def f__law_of : Fn := { names := ["source", "some"], arity := 2, src := true, body := (.cons (.ret (.idx (.var 1) (.call "_law_pick" (.some 0) (.cons (.bf .len (.cons (.var 1) .nil)) .nil)))) .nil) }
def f__law_lots : Fn := { names := ["m", "found", "x", "lot"], arity := 1, src := false, body := (.cons (.assign 1 false (.lst (.cons (.tup .nil) .nil))) (.cons (.for_ (.name 2) (.range1 (.var 0)) [1, 3] (.cons (.assign 1 false (.bin .add (.var 1) (.comp (.bin .add (.var 3) (.tup (.cons (.var 2) .nil))) (.name 3) (.over (.var 1)) (.bool true) [3]))) .nil)) (.cons (.ret (.bf .sorted (.cons (.var 1) .nil))) .nil))) }
def f__law_rest : Fn := { names := ["m", "lot", "x"], arity := 2, src := false, body := (.cons (.ret (.bf .tuple (.cons (.comp (.var 2) (.name 2) (.range1 (.var 0)) (.cmp .notin (.var 2) (.var 1)) [2]) .nil))) .nil) }
def f__law_given : Fn := { names := ["members", "found", "member", "lot", "x"], arity := 1, src := false, body := (.cons (.assign 1 true (.dict1 (.tup .nil) (.int 0))) (.cons (.for_ (.name 2) (.over (.var 0)) [1] (.cons (.for_ (.name 3) (.over (.bf .sorted (.cons (.var 1) .nil))) [1, 2] (.cons (.for_ (.name 4) (.over (.var 2)) [1, 2, 3] (.cons (.if_ (.cmp .notin (.var 4) (.var 3)) (.cons (.setItem 1 (.bf .tuple (.cons (.bf .sorted (.cons (.bin .add (.var 3) (.tup (.cons (.var 4) .nil))) .nil)) .nil)) (.int 0)) .nil) .nil) .nil)) .nil)) .nil)) (.cons (.ret (.bf .sorted (.cons (.var 1) .nil))) .nil))) }
def f__law_free_columns : Fn := { names := ["m", "columns", "found", "lot", "sums", "x", "one"], arity := 2, src := false, body := (.cons (.assign 2 true (.lst .nil)) (.cons (.for_ (.name 3) (.over (.call "_law_lots" .none (.cons (.var 0) .nil))) [1, 2, 6] (.cons (.assign 4 false (.lst (.cons (.int 0) .nil))) (.cons (.for_ (.name 5) (.over (.var 3)) [1, 2, 3, 4, 6] (.cons (.assign 4 false (.bin .add (.var 4) (.comp (.bin .xor (.var 6) (.idx (.var 1) (.var 5))) (.name 6) (.over (.var 4)) (.bool true) [6]))) .nil)) (.cons (.if_ (.cmp .eq (.me1 .count (.var 4) (.int 0)) (.int 1)) (.cons (.mut .append 2 (.var 3)) .nil) .nil) .nil)))) (.cons (.ret (.var 2)) .nil))) }
def f__law_bases : Fn := { names := ["m", "lots", "size", "lot"], arity := 2, src := false, body := (.cons (.assign 2 false (.bf .max1 (.cons (.comp (.bf .len (.cons (.var 3) .nil)) (.name 3) (.over (.var 1)) (.bool true) [3]) .nil))) (.cons (.ret (.tup (.cons (.var 0) (.cons (.bf .tuple (.cons (.bf .sorted (.cons (.comp (.var 3) (.name 3) (.over (.var 1)) (.cmp .eq (.bf .len (.cons (.var 3) .nil)) (.var 2)) [3]) .nil)) .nil)) .nil)))) .nil)) }
def f__law_system : Fn := { names := ["source", "m", "columns", "system", "members", "x", "k", "base"], arity := 2, src := true, body := (.cons (.if_ (.cmp .eq (.call "_law_pick" (.some 0) (.cons (.int 2) .nil)) (.int 0)) (.cons (.assign 2 false (.comp (.call "_law_pick" (.some 0) (.cons (.call "_law_of" (.some 0) (.cons (.lst (.cons (.int 2) (.cons (.int 4) (.cons (.int 8) .nil)))) .nil)) .nil)) (.name 5) (.range1 (.var 1)) (.bool true) [5])) (.cons (.assign 3 false (.call "_law_bases" .none (.cons (.var 1) (.cons (.call "_law_free_columns" .none (.cons (.var 1) (.cons (.var 2) .nil))) .nil)))) .nil)) (.cons (.assign 4 false (.comp (.bf .tuple (.cons (.comp (.var 5) (.name 5) (.range1 (.var 1)) (.cmp .eq (.call "_law_pick" (.some 0) (.cons (.int 2) .nil)) (.int 0)) [5]) .nil)) (.name 6) (.range1 (.call "_law_pick" (.some 0) (.cons (.int 5) .nil))) (.bool true) [6])) (.cons (.assign 3 false (.call "_law_bases" .none (.cons (.var 1) (.cons (.call "_law_given" .none (.cons (.var 4) .nil)) .nil)))) .nil))) (.cons (.if_ (.cmp .eq (.call "_law_pick" (.some 0) (.cons (.int 3) .nil)) (.int 0)) (.cons (.ret (.tup (.cons (.var 1) (.cons (.bf .tuple (.cons (.bf .sorted (.cons (.comp (.call "_law_rest" .none (.cons (.var 1) (.cons (.var 7) .nil))) (.name 7) (.over (.idx (.var 3) (.int 1))) (.bool true) [7]) .nil)) .nil)) .nil)))) .nil) .nil) (.cons (.ret (.var 3)) .nil))) }
def f__law_is_lot : Fn := { names := ["m", "value", "x"], arity := 2, src := false, body := (.cons (.if_ (.or_ (.not_ (.isinst .tuple (.var 1))) (.cmp .ne (.comp (.var 2) (.name 2) (.over (.var 1)) (.or_ (.not_ (.isinst .int (.var 2))) (.isinst .bool (.var 2))) [2]) (.lst .nil))) (.cons (.ret (.bool false)) .nil) .nil) (.cons (.ret (.cmp .eq (.bf .list (.cons (.var 1) .nil)) (.comp (.var 2) (.name 2) (.range1 (.var 0)) (.cmp .isin (.var 2) (.var 1)) [2]))) .nil)) }
def f__law_paper : Fn := { names := ["pair", "m", "lots", "other", "one", "a", "x"], arity := 1, src := false, body := (.cons (.unpack (.tup [(.name 1), (.name 2)]) (.var 0)) (.cons (.for_ (.name 3) (.over (.var 2)) [0, 2, 6] (.cons (.if_ (.cmp .ne (.bf .len (.cons (.var 3) .nil)) (.bf .len (.cons (.idx (.var 2) (.int 0)) .nil))) (.cons (.ret (.tup (.cons (.str (sN "sizes")) (.cons (.idx (.var 2) (.int 0)) (.cons (.var 3) .nil))))) .nil) .nil) .nil)) (.cons (.for_ (.name 4) (.over (.var 2)) [0, 2, 6] (.cons (.for_ (.name 3) (.over (.var 2)) [0, 2, 4, 6] (.cons (.for_ (.name 5) (.over (.comp (.var 6) (.name 6) (.over (.var 4)) (.cmp .notin (.var 6) (.var 3)) [6])) [0, 2, 3, 4, 6] (.cons (.if_ (.cmp .eq (.call "_law_goes" .none (.cons (.var 0) (.cons (.var 4) (.cons (.var 3) (.cons (.var 5) .nil))))) (.lst .nil)) (.cons (.ret (.tup (.cons (.str (sN "exchange")) (.cons (.var 4) (.cons (.var 3) (.cons (.var 5) .nil)))))) .nil) .nil) .nil)) .nil)) .nil)) (.cons (.ret (.tup (.cons (.str (sN "system")) .nil))) .nil)))) }
def f__law_goes : Fn := { names := ["pair", "one", "other", "a", "rest", "x", "b"], arity := 4, src := false, body := (.cons (.assign 4 false (.comp (.var 5) (.name 5) (.over (.var 1)) (.cmp .ne (.var 5) (.var 3)) [5])) (.cons (.ret (.comp (.var 6) (.name 6) (.over (.var 2)) (.and_ (.cmp .notin (.var 6) (.var 1)) (.cmp .isin (.bf .tuple (.cons (.bf .sorted (.cons (.bin .add (.var 4) (.lst (.cons (.var 6) .nil))) .nil)) .nil)) (.idx (.var 0) (.int 1)))) [6])) .nil)) }
def f__law_is_form : Fn := { names := ["value", "m", "lots", "lot", "k"], arity := 1, src := false, body := (.cons (.if_ (.or_ (.not_ (.isinst .tuple (.var 0))) (.or_ (.cmp .ne (.bf .len (.cons (.var 0) .nil)) (.int 2)) (.or_ (.not_ (.isinst .tuple (.idx (.var 0) (.int 1)))) (.cmp .eq (.idx (.var 0) (.int 1)) (.tup .nil))))) (.cons (.ret (.bool false)) .nil) .nil) (.cons (.unpack (.tup [(.name 1), (.name 2)]) (.var 0)) (.cons (.if_ (.or_ (.not_ (.isinst .int (.var 1))) (.or_ (.isinst .bool (.var 1)) (.or_ (.cmp .lt (.var 1) (.int 1)) (.cmp .ne (.comp (.var 3) (.name 3) (.over (.var 2)) (.not_ (.call "_law_is_lot" .none (.cons (.var 1) (.cons (.var 3) .nil)))) [3]) (.lst .nil))))) (.cons (.ret (.bool false)) .nil) .nil) (.cons (.ret (.cmp .eq (.comp (.var 4) (.name 4) (.range2 (.int 1) (.bf .len (.cons (.var 2) .nil))) (.cmp .le (.idx (.var 2) (.var 4)) (.idx (.var 2) (.bin .sub (.var 4) (.int 1)))) [4]) (.lst .nil))) .nil)))) }
def f_law : Fn := { names := ["script", "source", "lap", "m", "system", "lots", "drawn", "less", "pairs", "pair", "odd", "values", "value", "k", "more", "due", "kept", "shown", "lot"], arity := 1, src := false, body := (.cons (.for_ (.name 2) (.range1 (.int 4)) [1, 18] (.cons (.assign 3 false (.bin .add (.int 1) (.call "_law_pick" (.some 1) (.cons (.idx (.lst (.cons (.int 3) (.cons (.int 4) (.cons (.int 5) (.cons (.int 5) .nil))))) (.var 2)) .nil)))) (.cons (.assign 4 false (.call "_law_system" (.some 1) (.cons (.var 3) .nil))) (.cons (.if_ (.or_ (.notB (.call "is_system" .none (.cons (.var 4) .nil)) true) (.cmp .ne (.call "system_paper" .none (.cons (.var 4) .nil)) (.tup (.cons (.str (sN "system")) .nil)))) (.cons (.ret (.bool false)) .nil) .nil) (.cons (.assign 5 false (.call "_law_lots" .none (.cons (.var 3) .nil))) (.cons (.assign 6 false (.bf .tuple (.cons (.bf .sorted (.cons (.bf .dict (.cons (.comp (.tup (.cons (.call "_law_of" (.some 1) (.cons (.var 5) .nil)) (.cons (.int 0) .nil))) (.name 13) (.range1 (.bin .add (.int 1) (.call "_law_pick" (.some 1) (.cons (.int 5) .nil)))) (.bool true) [13]) .nil)) .nil)) .nil))) (.cons (.assigns [(13, false), (14, false)] (.cons (.call "_law_pick" (.some 1) (.cons (.bf .len (.cons (.idx (.var 4) (.int 1)) .nil)) .nil)) (.cons (.call "_law_of" (.some 1) (.cons (.var 5) .nil)) .nil))) (.cons (.assign 7 false (.bin .add (.slice (.idx (.var 4) (.int 1)) .none (.some (.var 13))) (.slice (.idx (.var 4) (.int 1)) (.some (.bin .add (.var 13) (.int 1))) .none))) (.cons (.assign 8 false (.lst (.cons (.tup (.cons (.var 3) (.cons (.var 6) .nil))) (.cons (.tup (.cons (.var 3) (.cons (.bf .tuple (.cons (.bf .sorted (.cons (.bf .dict (.cons (.comp (.tup (.cons (.var 18) (.cons (.int 0) .nil))) (.name 18) (.over (.bin .add (.idx (.var 4) (.int 1)) (.tup (.cons (.var 14) .nil)))) (.bool true) [18]) .nil)) .nil)) .nil)) .nil))) .nil)))) (.cons (.assign 8 false (.bin .add (.var 8) (.bin .mul (.lst (.cons (.tup (.cons (.var 3) (.cons (.var 7) .nil))) .nil)) (.bf .int (.cons (.cmp .ne (.var 7) (.tup .nil)) .nil))))) (.cons (.for_ (.name 9) (.over (.var 8)) [1, 3, 4, 13, 18] (.cons (.assigns [(16, false), (15, false)] (.cons (.bf .repr (.cons (.var 9) .nil)) (.cons (.call "_law_paper" .none (.cons (.var 9) .nil)) .nil))) (.cons (.if_ (.or_ (.cmp .ne (.bf .repr (.cons (.lst (.cons (.call "system_paper" .none (.cons (.var 9) .nil)) (.cons (.call "is_system" .none (.cons (.var 9) .nil)) .nil))) .nil)) (.bf .repr (.cons (.lst (.cons (.var 15) (.cons (.cmp .eq (.var 15) (.tup (.cons (.str (sN "system")) .nil))) .nil))) .nil))) (.cmp .ne (.bf .repr (.cons (.var 9) .nil)) (.var 16))) (.cons (.ret (.bool false)) .nil) .nil) .nil))) (.cons (.assign 10 false (.call "_law_of" (.some 1) (.cons (.lst (.cons .none (.cons (.bool true) (.cons (.int 0) (.cons (.tup .nil) (.cons (.tup (.cons (.int 0) (.cons (.int 0) .nil))) (.cons (.tup (.cons (.var 3) .nil)) (.cons (.lst (.cons (.int 0) .nil)) (.cons (.str (sN "0")) (.cons (.tup (.cons (.tup (.cons (.int 0) .nil)) .nil)) .nil)))))))))) .nil))) (.cons (.assign 11 true (.lst (.cons (.var 4) (.cons (.bf .list (.cons (.var 4) .nil)) (.cons (.tup (.cons (.var 3) (.cons (.bf .list (.cons (.idx (.var 4) (.int 1)) .nil)) .nil))) (.cons (.tup (.cons (.var 3) (.cons (.tup .nil) .nil))) (.cons (.tup (.cons (.int 0) (.cons (.tup (.cons (.tup .nil) .nil)) .nil))) (.cons (.tup (.cons (.int 1) (.cons (.tup (.cons (.tup .nil) .nil)) .nil))) (.cons (.tup (.cons (.var 3) (.cons (.rev (.idx (.var 4) (.int 1))) .nil))) .nil))))))))) (.cons (.assign 11 true (.bin .add (.var 11) (.lst (.cons (.tup (.cons (.bin .sub (.var 3) (.int 1)) (.cons (.idx (.var 4) (.int 1)) .nil))) (.cons (.tup (.cons (.bin .add (.var 3) (.int 1)) (.cons (.idx (.var 4) (.int 1)) .nil))) (.cons (.tup (.cons (.var 10) (.cons (.idx (.var 4) (.int 1)) .nil))) (.cons (.tup (.cons (.var 3) (.cons (.var 10) .nil))) (.cons (.bin .add (.var 4) (.tup (.cons (.int 0) .nil))) (.cons (.tup (.cons (.var 3) .nil)) .nil))))))))) (.cons (.assign 11 true (.bin .add (.var 11) (.lst (.cons (.var 10) (.cons .none .nil))))) (.cons (.mut .append 11 (.tup (.cons (.var 3) (.cons (.bin .add (.bin .add (.slice (.idx (.var 4) (.int 1)) .none (.some (.var 13))) (.tup (.cons (.var 10) .nil))) (.slice (.idx (.var 4) (.int 1)) (.some (.bin .add (.var 13) (.int 1))) .none)) .nil)))) (.cons (.freeze 11) (.cons (.for_ (.name 12) (.over (.var 11)) [1, 18] (.cons (.assigns [(17, false), (15, false)] (.cons (.bf .repr (.cons (.var 12) .nil)) (.cons (.call "_law_is_form" .none (.cons (.var 12) .nil)) .nil))) (.cons (.assign 15 false (.and_ (.var 15) (.cmp .eq (.call "_law_paper" .none (.cons (.var 12) .nil)) (.tup (.cons (.str (sN "system")) .nil))))) (.cons (.if_ (.or_ (.cmp .ne (.bf .repr (.cons (.call "is_system" .none (.cons (.var 12) .nil)) .nil)) (.bf .repr (.cons (.var 15) .nil))) (.cmp .ne (.bf .repr (.cons (.var 12) .nil)) (.var 17))) (.cons (.ret (.bool false)) .nil) .nil) .nil)))) .nil)))))))))))))))))) (.cons (.ret (.cmp .eq (.call "system_paper" .none (.cons (.tup (.cons (.int 4) (.cons (.tup (.cons (.tup (.cons (.int 0) (.cons (.int 1) .nil))) (.cons (.tup (.cons (.int 2) (.cons (.int 3) .nil))) .nil))) .nil))) .nil)) (.tup (.cons (.str (sN "exchange")) (.cons (.tup (.cons (.int 0) (.cons (.int 1) .nil))) (.cons (.tup (.cons (.int 2) (.cons (.int 3) .nil))) (.cons (.int 0) .nil))))))) .nil)) }
def Γ : String → Option Fn
  | "is_number_under" => some f_is_number_under
  | "is_things_lot" => some f_is_things_lot
  | "is_lots_form" => some f_is_lots_form
  | "put_for" => some f_put_for
  | "system_paper" => some f_system_paper
  | "is_system" => some f_is_system
  | "_law_of" => some f__law_of
  | "_law_lots" => some f__law_lots
  | "_law_rest" => some f__law_rest
  | "_law_given" => some f__law_given
  | "_law_free_columns" => some f__law_free_columns
  | "_law_bases" => some f__law_bases
  | "_law_system" => some f__law_system
  | "_law_is_lot" => some f__law_is_lot
  | "_law_paper" => some f__law_paper
  | "_law_goes" => some f__law_goes
  | "_law_is_form" => some f__law_is_form
  | _ => none
def fs : List String := ["is_number_under", "is_things_lot", "is_lots_form", "put_for", "system_paper", "is_system", "_law_pick", "_law_of", "_law_lots", "_law_rest", "_law_given", "_law_free_columns", "_law_bases", "_law_system", "_law_is_lot", "_law_paper", "_law_goes", "_law_is_form"]
-- places: is_number_under=1, is_things_lot=3, is_lots_form=4, put_for=5, system_paper=6, is_system=7, _law_source=9, _law_pick=10, _law_of=11, _law_lots=12, _law_rest=13, _law_given=14, _law_free_columns=15, _law_bases=16, _law_system=17, _law_is_lot=18, _law_paper=19, _law_goes=20, _law_is_form=21, law=22
end Mp

/-! Q4: the law's def; the end. -/
namespace Mp
open PySem L2 PyProof.Rows PySem.W

abbrev sLaw : Stmt := topS 22
def NL : List Str := f_law.names.map sN
def PL : List Str := ["script"]
theorem scL : FnScope NL PL (defScope sLaw) := ⟨rfl, rfl, rfl, by decide +kernel, by decide +kernel, by decide +kernel, by decide +kernel⟩
/-- the law's slots behind the first statement -/
def lawEnv : Ev := (List.replicate f_law.names.length Slot.no).set 1 .src
def spLaw (K : PySem.W.Frag) : Sp := fun vs H Q _ => ∃ (a : Addr) (ns : List Int), vs = [.ref a] ∧ SqL K H a (ns.map V.int) ∧ ns.length ≤ 63 ∧ ∀ H', Q (.bl true) H'
theorem pss_any {X : Cx} {α : Type} {ts : List Stmt} {t : α → TS} (h : ∀ x, PSs X ts (t x)) : PSs X ts (fun D σ H => ∃ x, t x D σ H) := ⟨fun pins s σ H D I ⟨x, q⟩ => (h x).run pins s σ H D I q⟩
theorem chk_law : chkSs NL fs (defScope sLaw) f_law.body ((defBody sLaw).drop 1) = true := by decide +kernel

section
variable {P : Program} {w : World} {K : PySem.W.Frag} {mg : Str → Option Value} {base : Heap}
theorem law_ok {fa fs_ : Addr} {fd fds : FuncData} (F : Fun K (sN "law") (sN "law") sLaw fa fd) (FS : Fun K (sN "_law_source") (sN "_law_source") sSource fs_ fds) (gS : mg (sN "_law_source") = some (.ref fs_)) (bS : Binds K fds PSr [])
    (kit : ∀ x ∈ kitNames, mg (sN x) = none) (n : Nat) (defs : ∀ f ∈ fs, DefOk P w K mg base (callN Γ (n + 1)) (n + 1) f)
    (val : ∀ ns : List Int, ns.length ≤ 63 → ∃ s', execs (callN Γ (n + 1)) fuelW f_law.body lawEnv (srcOf ns) = some (.ret (.bool true), s')) : FnG P w K mg base (n + 2) fa fd PL (spLaw K) := by
  have src := source_ok (P := P) (w := w) (base := base) FS kit n
  obtain ⟨oc, od, kV, doc, pm, an, cdv, ct, osl, rfl, lk, hcd⟩ := F.ex
  refine fnG_of (N := NL) lk hcd scL (fun vs H Q E h => by obtain ⟨a, ns, rfl, _⟩ := h; rfl) fun A outer s H vs Q E hr hg hsp => ?_
  obtain ⟨a, ns, rfl, hS, hl, k⟩ := hsp
  have O : XOkS (callN Γ (n + 1)) fs NL (cxOf CX0 P w K mg base NL (sN "law") (defScope sLaw) fa cdv A outer s H E).nox := by
    refine ⟨⟨rfl, scL.nd, rfl, hg, ?_, kit, fun g hg' => ?_⟩, rfl, scL.kind, rfl⟩
    · have := hr.un
      show (A.deeper _).units + 200 < cLine
      omega
    · obtain ⟨fa', fd', ps', h1, h2, h3, h4, h5⟩ := defs g hg'
      exact ⟨n + 1, fa', fd', ps', h1, h2, h3, hr, h4, h5⟩
  refine ⟨_, PSs.nox (pss_cons (ps_set (i := 1) scL.nd (by rfl) (by first | exact .inl rfl | exact .inr rfl) (pe_callG (E := fun _ _ _ => False) src hr hg (by rfl) gS FS.kp bS (pa_cons (pv 0 (by rfl) (.inl (by rfl))) pa_nil) (by decide) rfl rfl))
    (pss_any fun sw : Sw => sSts (sw := sw) (fuel := fuelW) _ O f_law.body _ chk_law)), ?_⟩
  refine ⟨.ref a, rfl, a, ns, rfl, hS, hl, fun S C H' ne sm nS nC at_ => ?_⟩
  obtain ⟨s', hv⟩ := val ns hl
  refine ⟨some (S, C), muS (some (S, C)), H', muS (some (S, C)), lawEnv, srcOf ns, .ret (.bool true), s', ?_, hv, fun v H2 E2 S2 R2 => ?_⟩
  · have dom : ∀ b, muS (some (S, C)) b → H' b ≠ none := fun b ⟨p, hp, hb⟩ => by
      cases hp
      rcases hb with rfl | rfl
      · rw [at_.d]; simp
      · rw [at_.c]; simp
    have slots : ∀ (i : Nat) sl, lawEnv[i]? = some sl → sl = .no ∨ (i = 1 ∧ sl = .src) := fun i sl h => by
      unfold lawEnv at h
      by_cases e : 1 = i
      · subst e
        rw [List.getElem?_set_self (by decide)] at h
        exact .inr ⟨rfl, (Option.some.inj h).symm⟩
      · rw [List.getElem?_set_ne e, List.getElem?_replicate] at h
        split at h
        · exact .inl (Option.some.inj h).symm
        · cases h
    refine ⟨⟨by rfl, fun p hp => ?_, fun p hp => ⟨⟨p, hp, .inl rfl⟩, ⟨p, hp, .inr rfl⟩⟩, dom, fun i sl h => ?_⟩, dom, fun _ h => h, ExtS.refl _ _, fun i d h => ?_, fun i j d d' b _ h => ?_⟩
    · cases hp
      exact at_
    · rcases slots i sl h with rfl | ⟨rfl, rfl⟩
      · trivial
      · exact ⟨(S, C), rfl, rfl⟩
    · rcases slots i _ h with z | ⟨_, z⟩ <;> cases z
    · rcases slots i _ h with z | ⟨_, z⟩ <;> cases z
  · cases R2
    exact k H2
end
end Mp

/-! Q5: from the law's def to the law row. -/
namespace Mp
open PySem L2 PyProof.Rows PySem.W

/-- the call that a law row asks for, of a def that wants to know that no repr is under way -/
theorem head_g {P : Program} {w : World} {K : PySem.W.Frag} {mg mb : Str → Option Value} {k : Nat} {fa a : Addr} {fd : FuncData} {x : Str} {sp : Sp} {t : Shared} {us : List Value} {ns : List Int}
    (kin : K.In t.heap) (hns : t.heap.Ns mainGlobals mg) (hmb : t.heap.Ns builtinsNs mb) (hbt : ∀ x : Str, x ≠ "__name__" → mb x = bootBuiltins x) (nolim : t.heap.NoLimit) (hgn : t.gens = #[])
    (hobj : t.heap.get? a = some { cls := .type "list", data := .seq us.toArray }) (ints_ : IntsAre us ns) (hlen : ns.length ≤ sizeLine) (room : Room k callerA)
    (F : ∀ base : Heap, K.In base → base.Ns mainGlobals mg → FnG P w K mg base k fa fd [x] sp) (bind : ∀ (s : Shared) (u : Value), BindsTo s fd ⟨[u], []⟩ [(x, u)])
    (hsp : ∀ H : Hp, SqL K H a (ns.map V.int) → sp [.ref a] H (fun v _ => v = .bl true) fun _ _ _ => False) :
    codeAny (model P w) callerA (.call (.ref fa) ⟨[.ref a], []⟩) (fun r s' => r = .ok (.ret (.bool true)) ∧ OldK t.heap s'.heap ∧ s'.os = t.os ∧ AllBare s'.gens) t := by
  have rel := vals_ints ints_
  have ln := ints_.length
  suffices core : ∀ H : Hp, Only H → SqL K H a (ns.map V.int) → HOk P w H t.heap → (∀ b, H b ≠ none → b = a) → (H a ≠ none → K.lookup a = none) →
      codeAny (model P w) callerA (.call (.ref fa) ⟨[.ref a], []⟩) (fun r s' => r = .ok (.ret (.bool true)) ∧ OldK t.heap s'.heap ∧ s'.os = t.os ∧ AllBare s'.gens) t by
    cases q : K.lookup a with
    | some o =>
      have same := kin a o q
      rw [hobj] at same
      cases same
      exact core (fun _ => none) (fun _ => .inl rfl) (.inr ⟨_, us.toArray, _, q, rfl, rfl, rfl, by rw [List.size_toArray, ln]; exact hlen, by simpa using rel⟩) (fun b u z => nomatch (show (none : Option HO) = some u from z)) (fun b z => absurd rfl z) fun z => absurd rfl z
    | none =>
      have at_a : (fun b : Addr => if b = a then some (HO.frz { cls := .type "list", data := .seq us.toArray } (.lst (ns.map V.int))) else none) a = some (HO.frz { cls := .type "list", data := .seq us.toArray } (.lst (ns.map V.int))) := if_pos rfl
      have off_a : ∀ b, b ≠ a → (fun b : Addr => if b = a then some (HO.frz { cls := .type "list", data := .seq us.toArray } (.lst (ns.map V.int))) else none) b = none := fun b hb => if_neg hb
      refine core (fun b => if b = a then some (.frz { cls := .type "list", data := .seq us.toArray } (.lst (ns.map V.int))) else none) (fun b => ?_) (.inl (.inr ⟨_, at_a⟩)) (fun b u z => ?_) (fun b z => ?_) fun _ => q
      · by_cases hb : b = a
        · subst hb; exact .inr ⟨_, _, at_a⟩
        · exact .inl (off_a b hb)
      · by_cases hb : b = a
        · subst hb
          cases at_a.symm.trans z
          exact ⟨hobj, by rw [List.length_map]; exact hlen, us, _, rel, hobj⟩
        · cases (off_a b hb).symm.trans z
      · by_cases hb : b = a
        · exact hb
        · exact absurd (off_a b hb) z
  intro H only hS hok near free
  have into : ∀ {b : Addr} {o : Obj}, t.heap.get? b = some o → H b = none → (hidT t.heap H).get? b = some o := fun e m => hidT_get e m
  have dictFree : ∀ {b : Addr} {o : Obj} {es : Array DictEntry} {ep : Nat}, t.heap.get? b = some o → o.data = .dict es ep → H b = none := fun {b o es ep} e dd => by
    cases q : H b with
    | none => rfl
    | some u =>
      obtain rfl : b = a := near b (by rw [q]; simp)
      rw [hobj] at e
      cases e
      cases (show Data.seq us.toArray _ = Data.dict es ep from dd)
  have nsIn : ∀ {b : Addr} {m : Str → Option Value}, t.heap.Ns b m → (hidT t.heap H).Ns b m := fun ⟨o, es, ep, e, dd, r⟩ => ⟨o, es, ep, into e (dictFree e dd), dd, r⟩
  have kinB : K.In (hidT t.heap H) := fun b o e => into (kin b o e) (by
    cases q : H b with
    | none => rfl
    | some u =>
      obtain rfl : b = a := near b (by rw [q]; simp)
      rw [free (by rw [q]; simp)] at e
      cases e)
  have md : Mod K mg (hidT t.heap H) := ⟨kinB, nsIn hns, ⟨mb, nsIn hmb, hbt⟩, let ⟨mc, h1, h2⟩ := nolim; ⟨mc, nsIn h1, h2⟩⟩
  have env0 : Env0 P w K mg (hidT t.heap H) callerA [] t H := ⟨rfl, md, fun b o e => of_hidT e, Nat.le_of_eq (hidT_size _ _), trivial, fun b hb => absurd (show b ∈ ([] : List Addr) from hb) (by simp), hok, .of_eq hgn⟩
  refine codeAny_mono ((F _ kinB (nsIn hns)).go callerA [] t H ⟨[.ref a], []⟩ [.ref a] [.ref a] _ _ room rfl env0 (bind t (.ref a)) (.cons rfl .nil) (hsp H hS)) fun r s' hr => ?_
  match r, hr with
  | .ok (.ret u), ⟨v, H', os, bare, un, hok', rv, ev⟩ =>
    obtain rfl : v = V.bl true := ev
    obtain rfl : u = Value.bool true := rv
    refine ⟨rfl, OldK.of_keep fun b o e => ?_, os, bare⟩
    cases q : H b with
    | none => exact un.keep b o e q (fun z => absurd (show b ∈ ([] : List Addr) from z) (by simp)) (by simp)
    | some u =>
      rcases only b with z | ⟨ob, xs, z⟩
      · rw [q] at z; cases z
      · obtain ⟨e1, _⟩ := hok b _ z
        obtain ⟨e2, _⟩ := hok' b _ (un.frzs b ob _ z)
        rw [e] at e1
        cases e1
        exact e2

/-- the goal that k_head leaves, from the law's def -/
theorem walk_g {l : PySem.W.OpenLaw} {n k : Nat} {q : Program} {loose : List Str} {XP : (Str → Option Value) → Heap → Prop} {YP : World → Heap → Prop} {d : DefRec} {K : Params → PySem.W.Frag} {sp : World → Sp} {x : Str}
    (hn : l.most = some n) (hn2 : n ≤ sizeLine) (hdf : d.params.defaults = []) (room : Room k callerA)
    (hY : ∀ (w : World) (h : Heap), YP w h → (K w.params).In h)
    (F : ∀ (w : World) (mg : Str → Option Value) (fa : Addr) (h : Heap), (K w.params).In h → h.Ns mainGlobals mg → mg d.name = some (.ref fa) →
      ∃ fd : FuncData, (∀ (s : Shared) (u : Value), BindsTo s fd ⟨[u], []⟩ [(x, u)]) ∧ ∀ base : Heap, (K w.params).In base → base.Ns mainGlobals mg → FnG l.prog w (K w.params) mg base k fa fd [x] (sp w))
    (hsp : ∀ (w : World) (H : Hp) (a : Addr) (ns : List Int), ns.length ≤ n → SqL (K w.params) H a (ns.map V.int) → sp w [.ref a] H (fun v _ => v = .bl true) fun _ _ _ => False) :
    PySem.W.WalkO q loose XP YP l.row.toRowW d [] (fun f vs => PySem.call f vs) := by
  refine Att.attach_call hn hdf fun w s₀ t mg mb fa o pm cd doc a us ns G Y ho hd hcd hmg hobj hints hlen hg => ?_
  obtain ⟨fd, bd, hF⟩ := F w mg fa _ (hY w _ Y) G.T.g hmg
  exact head_g (hY w _ Y) G.T.g G.T.b G.T.builtins G.T.nolimit hg hobj hints (Nat.le_trans hlen hn2) room hF bd fun H hS => hsp w H a ns hlen hS
end Mp

/-! V1: the evaluator's loops, in plain words. -/
namespace Mp
open PySem

theorem bnd_eq {α β : Type} {x : M α} {f : α → M β} {s s' : Src} {a : α} (h : x s = some (a, s')) : bnd x f s = f a s' := by
  unfold bnd
  rw [h]
theorem bnd_ret {α β : Type} (a : α) (f : α → M β) : bnd (ret a) f = f a := rfl
theorem lft_eq {α : Type} {o : Option α} {a : α} (h : o = some a) : lft o = ret a := by
  subst h
  rfl
theorem lft_some' {α : Type} (a : α) : lft (some a) = ret a := rfl
theorem ite_ret {α : Type} {c : Prop} [Decidable c] (h : c) (a b : M α) : (if c then a else b) = a := if_pos h

theorem comp_pure {f : D → M (Option D)} (g : D → Option D) : ∀ (ds acc : List D) (s : Src), (∀ d ∈ ds, ∀ s, f d s = some (g d, s)) → (acc ++ ds.filterMap g).length ≤ lim → compLoop f ds acc s = some (acc ++ ds.filterMap g, s)
  | [], acc, s, _, _ => by
    show ret acc s = _
    rw [List.filterMap_nil, List.append_nil]
    rfl
  | d :: r, acc, s, h, hl => by
    show bnd (f d) _ s = _
    rw [bnd_eq (h d (.head _) s)]
    cases e : g d with
    | none =>
      rw [List.filterMap_cons_none e] at hl ⊢
      exact comp_pure g r acc s (fun d hd => h d (.tail _ hd)) hl
    | some x =>
      rw [List.filterMap_cons_some e] at hl ⊢
      have hlt : acc.length < lim := by
        rw [List.length_append, List.length_cons] at hl
        omega
      show (if acc.length < lim then compLoop f r (acc ++ [x]) else stuck) s = _
      rw [if_pos hlt, comp_pure g r (acc ++ [x]) s (fun d hd => h d (.tail _ hd)) (by rw [List.append_assoc]; exact hl), List.append_assoc]
      rfl
/-- a comprehension that draws -/
theorem comp_inv {f : D → M (Option D)} (P : Nat → List D → Src → Prop) : ∀ (ds : List D) (i : Nat) (acc : List D) (s : Src), (∀ j d acc s, ds[j]? = some d → P (i + j) acc s → acc.length < lim ∧ ∃ x s', f d s = some (some x, s') ∧ P (i + j + 1) (acc ++ [x]) s') → P i acc s →
    ∃ xs s', compLoop f ds acc s = some (xs, s') ∧ P (i + ds.length) xs s'
  | [], i, acc, s, _, p => ⟨acc, s, rfl, p⟩
  | d :: r, i, acc, s, h, p => by
    obtain ⟨hlt, x, s1, e, p1⟩ := h 0 d acc s rfl p
    obtain ⟨xs, s', e2, p2⟩ := comp_inv P r (i + 1) (acc ++ [x]) s1 (fun j d' acc s hj hp => by
      have := h (j + 1) d' acc s (by simpa using hj) (by rw [show i + (j + 1) = i + 1 + j by omega]; exact hp)
      rw [show i + (j + 1) + 1 = i + 1 + j + 1 by omega] at this
      exact this) p1
    refine ⟨xs, s', ?_, by rw [List.length_cons, show i + (r.length + 1) = i + 1 + r.length by omega]; exact p2⟩
    show bnd (f d) _ s = _
    rw [bnd_eq e]
    show (if acc.length < lim then compLoop f r (acc ++ [x]) else stuck) s1 = _
    rw [if_pos hlt]
    exact e2
theorem for_inv {f : D → Ev → M Fl} (P : Nat → Ev → Src → Prop) : ∀ (ds : List D) (i : Nat) (σ : Ev) (s : Src), (∀ j d σ s, ds[j]? = some d → P (i + j) σ s → ∃ σ' s', f d σ s = some (.next σ', s') ∧ P (i + j + 1) σ' s') → P i σ s →
    ∃ σ' s', forLoop f ds σ s = some (.next σ', s') ∧ P (i + ds.length) σ' s'
  | [], i, σ, s, _, p => ⟨σ, s, rfl, p⟩
  | d :: r, i, σ, s, h, p => by
    obtain ⟨σ1, s1, e, p1⟩ := h 0 d σ s rfl p
    obtain ⟨σ', s', e2, p2⟩ := for_inv P r (i + 1) σ1 s1 (fun j d' σ s hj hp => by
      have := h (j + 1) d' σ s (by simpa using hj) (by rw [show i + (j + 1) = i + 1 + j by omega]; exact hp)
      rw [show i + (j + 1) + 1 = i + 1 + j + 1 by omega] at this
      exact this) p1
    refine ⟨σ', s', ?_, by rw [List.length_cons, show i + (r.length + 1) = i + 1 + r.length by omega]; exact p2⟩
    show bnd (f d σ) _ s = _
    rw [bnd_eq e]
    exact e2
theorem while_inv {f : Ev → M (Option Fl)} (P : Nat → Ev → Src → Prop) (Q : Ev → Src → Prop) : ∀ (m fuel : Nat) (σ : Ev) (s : Src), m < fuel → P m σ s → (∀ m σ s, P m σ s → (∃ s', f σ s = some (none, s') ∧ Q σ s') ∨ (∃ m' σ' s', f σ s = some (some (.next σ'), s') ∧ m' < m ∧ P m' σ' s')) →
    ∃ σ' s', whileLoop f fuel σ s = some (.next σ', s') ∧ Q σ' s' := by
  intro m
  induction m using Nat.strongRecOn with
  | ind m ih =>
    intro fuel σ s hf p h
    cases fuel with
    | zero => omega
    | succ fuel =>
      rcases h m σ s p with ⟨s', e, q⟩ | ⟨m', σ', s', e, hm, p'⟩
      · refine ⟨σ, s', ?_, q⟩
        show bnd (f σ) _ s = _
        rw [bnd_eq e]
        rfl
      · obtain ⟨σ2, s2, e2, q⟩ := ih m' hm fuel σ' s' (by omega) p' h
        refine ⟨σ2, s2, ?_, q⟩
        show bnd (f σ) _ s = _
        rw [bnd_eq e]
        exact e2

/-- a def of the table -/
theorem call_def {Γ : String → Option Fn} {n : Nat} {f : String} {fn : Fn} {b : Bool} {ds : List D} {s s' : Src} {d : D} (hp : prim n f b ds = none) (hf : Γ f = some fn) (hs : fn.src = b) (ha : ds.length + b.toNat = fn.arity) (e : execs (callN Γ n) fuelW fn.body (entry fn b ds) s = some (.ret d, s')) : callN Γ (n + 1) f b ds s = some (d, s') := by
  show (match prim n f b ds with | some m => m | none => _) s = _
  simp only [hp, hf, hs, ha, beq_self_eq_true, decide_true, Bool.and_self, if_true]
  rw [bnd_eq e]
  rfl
end Mp

/-! V1b: rows of numbers, ways, arrows as trees. -/
namespace Mp
open PySem

def rowD (ns : List Int) : D := .tuple (ns.map .int)
def waysD (ws : List (List Int)) : D := .list (ws.map rowD)
def pD (p : Int × Int) : D := .tuple [.int p.1, .int p.2]

theorem eqvAll_ints : ∀ (xs ys : List Int), PyData.eqvAll (xs.map .int) (ys.map .int) = decide (xs = ys)
  | [], [] => rfl
  | [], _ :: _ => rfl
  | _ :: _, [] => rfl
  | x :: xs, y :: ys => by
    show ((x == y) && PyData.eqvAll (xs.map .int) (ys.map .int)) = _
    rw [eqvAll_ints xs ys]
    by_cases h : x = y <;> by_cases h2 : xs = ys <;> simp [h, h2]
theorem eqv_int (x y : Int) : (PyData.int x).eqv (.int y) = decide (x = y) := by
  show (x == y) = _
  by_cases h : x = y <;> simp [h]
theorem eqv_row (a b : List Int) : (rowD a).eqv (rowD b) = decide (a = b) := eqvAll_ints a b
theorem eqv_pD (p q : Int × Int) : (pD p).eqv (pD q) = decide (p = q) := by
  show ((p.1 == q.1) && ((p.2 == q.2) && true)) = _
  obtain ⟨a, b⟩ := p
  obtain ⟨c, d⟩ := q
  by_cases h : a = c <;> by_cases h2 : b = d <;> simp [h, h2]
theorem eqvAll_map {α : Type} [DecidableEq α] (φ : α → D) (h : ∀ a b, (φ a).eqv (φ b) = decide (a = b)) : ∀ (xs ys : List α), PyData.eqvAll (xs.map φ) (ys.map φ) = decide (xs = ys)
  | [], [] => rfl
  | [], _ :: _ => rfl
  | _ :: _, [] => rfl
  | x :: xs, y :: ys => by
    show ((φ x).eqv (φ y) && PyData.eqvAll (xs.map φ) (ys.map φ)) = _
    rw [eqvAll_map φ h xs ys, h]
    by_cases h1 : x = y <;> by_cases h2 : xs = ys <;> simp [h1, h2]
theorem eqv_ways (a b : List (List Int)) : (waysD a).eqv (waysD b) = decide (a = b) := eqvAll_map rowD eqv_row a b

theorem depthAll_le {k : Nat} : ∀ (ds : List D), (∀ d ∈ ds, d.depth ≤ k) → PyData.depthAll ds ≤ k
  | [], _ => by unfold PyData.depthAll; omega
  | d :: ds, h => by
    have h1 := h d (.head _)
    have h2 := depthAll_le ds fun d hd => h d (.tail _ hd)
    unfold PyData.depthAll
    omega
theorem canLayAll : ∀ (ds : List D), (∀ d ∈ ds, d.canLay0 = true) → PyData.canLayAll0 ds = true
  | [], _ => by unfold PyData.canLayAll0; rfl
  | d :: ds, h => by
    unfold PyData.canLayAll0
    rw [h d (.head _), canLayAll ds fun d hd => h d (.tail _ hd)]
    rfl
/-- plain, of some depth -/
def Pl (k : Nat) (d : D) : Prop := d.canLay0 = true ∧ d.depth ≤ k
theorem pl_int {k : Nat} (i : Int) : Pl k (.int i) := ⟨by unfold PyData.canLay0; rfl, by unfold PyData.depth; omega⟩
theorem pl_tuple {k : Nat} {ds : List D} (h : ∀ d ∈ ds, Pl k d) : Pl (k + 1) (.tuple ds) := ⟨by unfold PyData.canLay0; exact canLayAll ds fun d hd => (h d hd).1, by
  have := depthAll_le ds fun d hd => (h d hd).2
  unfold PyData.depth
  omega⟩
theorem pl_list {k : Nat} {ds : List D} (h : ∀ d ∈ ds, Pl k d) : Pl (k + 1) (.list ds) := ⟨by unfold PyData.canLay0; exact canLayAll ds fun d hd => (h d hd).1, by
  have := depthAll_le ds fun d hd => (h d hd).2
  unfold PyData.depth
  omega⟩
theorem Pl.shp {k : Nat} {d : D} (h : Pl k d) (hk : k ≤ 64) : shp d = true := by
  unfold Mp.shp SeqAt.shaped
  rw [h.1, Bool.true_and, decide_eq_true_eq]
  exact Nat.le_trans h.2 hk
theorem pl_row {k : Nat} (ns : List Int) : Pl (k + 1) (rowD ns) := pl_tuple fun d hd => by
  obtain ⟨i, _, rfl⟩ := List.mem_map.mp hd
  exact pl_int i
theorem pl_pD {k : Nat} (p : Int × Int) : Pl (k + 1) (pD p) := pl_row [p.1, p.2]
theorem pl_ways {k : Nat} (ws : List (List Int)) : Pl (k + 2) (waysD ws) := pl_list fun d hd => by
  obtain ⟨i, _, rfl⟩ := List.mem_map.mp hd
  exact pl_row i
theorem cop_eq_int (a b : Int) : cop .eq (.int a) (.int b) = some (decide (a = b)) := by
  show (if shp (.int a) && shp (.int b) then some _ else none) = _
  rw [(pl_int (k := 0) a).shp (by omega), (pl_int (k := 0) b).shp (by omega), eqv_int]
  rfl
theorem cop_ne_int (a b : Int) : cop .ne (.int a) (.int b) = some (!decide (a = b)) := by
  show (if shp (.int a) && shp (.int b) then some _ else none) = _
  rw [(pl_int (k := 0) a).shp (by omega), (pl_int (k := 0) b).shp (by omega), eqv_int]
  rfl
theorem cop_eq_ways (a b : List (List Int)) : cop .eq (waysD a) (waysD b) = some (decide (a = b)) := by
  show (if shp (waysD a) && shp (waysD b) then some _ else none) = _
  rw [(pl_ways (k := 0) a).shp (by omega), (pl_ways (k := 0) b).shp (by omega), eqv_ways]
  rfl
theorem cop_ne_ways (a b : List (List Int)) : cop .ne (waysD a) (waysD b) = some (!decide (a = b)) := by
  show (if shp (waysD a) && shp (waysD b) then some _ else none) = _
  rw [(pl_ways (k := 0) a).shp (by omega), (pl_ways (k := 0) b).shp (by omega), eqv_ways]
  rfl
theorem inSeq_map {α : Type} [DecidableEq α] {k : Nat} (φ : α → D) (h : ∀ a b, (φ a).eqv (φ b) = decide (a = b)) (hp : ∀ a, Pl k (φ a)) (hk : k < 64) (x : α) (xs : List α) : inSeq (φ x) (xs.map φ) = some (decide (x ∈ xs)) := by
  unfold inSeq
  rw [(hp x).shp (by omega), (pl_list (k := k) (ds := xs.map φ) fun d hd => by obtain ⟨i, _, rfl⟩ := List.mem_map.mp hd; exact hp i).shp (by omega)]
  show some _ = some _
  congr 1
  rw [List.any_map]
  induction xs with
  | nil => simp
  | cons y ys ih =>
    rw [List.any_cons, ih]
    show ((φ y).eqv (φ x) || _) = _
    rw [h]
    by_cases e : y = x
    · subst e; simp
    · simp [e, Ne.symm e, eq_comm]
theorem in_ints (x : Int) (ns : List Int) : inSeq (.int x) (ns.map .int) = some (decide (x ∈ ns)) := inSeq_map (k := 0) .int eqv_int (fun a => pl_int a) (by omega) x ns
theorem in_pairs (x : Int × Int) (ns : List (Int × Int)) : inSeq (pD x) (ns.map pD) = some (decide (x ∈ ns)) := (inSeq_map (k := 1) pD eqv_pD (fun a => pl_pD a) (by omega) x ns).trans (by simp)
theorem in_row (x : Int) (ns : List Int) : cop .isin (.int x) (rowD ns) = some (decide (x ∈ ns)) := in_ints x ns
theorem notin_row (x : Int) (ns : List Int) : cop .notin (.int x) (rowD ns) = some (!decide (x ∈ ns)) := by
  show (inSeq _ _).map _ = _
  rw [in_ints]; rfl

/-- a comprehension over things told by φ -/
theorem comp_fm {α : Type} {f : D → M (Option D)} (φ : α → D) (p : α → Bool) (ψ : α → D) : ∀ (xs : List α) (acc : List D) (s : Src), (∀ x ∈ xs, ∀ s, f (φ x) s = some (if p x then some (ψ x) else none, s)) → acc.length + xs.length ≤ lim → compLoop f (xs.map φ) acc s = some (acc ++ (xs.filter p).map ψ, s)
  | [], acc, s, _, _ => by
    show ret acc s = _
    rw [List.filter_nil, List.map_nil, List.append_nil]
    rfl
  | x :: r, acc, s, h, hl => by
    show bnd (f (φ x)) _ s = _
    rw [bnd_eq (h x (.head _) s)]
    rw [List.length_cons] at hl
    cases e : p x with
    | false =>
      rw [if_neg Bool.false_ne_true, List.filter_cons_of_neg (by rw [e]; simp)]
      exact comp_fm φ p ψ r acc s (fun x hx => h x (.tail _ hx)) (by omega)
    | true =>
      rw [if_pos rfl, List.filter_cons_of_pos e]
      show (if acc.length < lim then compLoop f (r.map φ) (acc ++ [ψ x]) else stuck) s = _
      rw [if_pos (by omega), comp_fm φ p ψ r (acc ++ [ψ x]) s (fun x hx => h x (.tail _ hx)) (by rw [List.length_append, List.length_singleton]; omega), List.append_assoc]
      rfl
theorem comp_all {α : Type} {f : D → M (Option D)} (φ : α → D) (ψ : α → D) (xs : List α) (s : Src) (h : ∀ x ∈ xs, ∀ s, f (φ x) s = some (some (ψ x), s)) (hl : xs.length ≤ lim) : compLoop f (xs.map φ) [] s = some (xs.map ψ, s) := by
  rw [comp_fm φ (fun _ => true) ψ xs [] s (fun x hx s => by rw [h x hx s]; rfl) (by simpa using hl)]
  rw [List.filter_eq_self.mpr (fun _ _ => rfl), List.nil_append]
end Mp

/-! V1c: sorting rows of numbers. -/
namespace Mp
open PySem PySem.W

/-- rows in their order -/
def leR (a b : List Int) : Bool := decide (a ≤ b)
theorem leD_row (a b : List Int) : leD (rowD a) (rowD b) = leR a b := by
  have e : dataLt (rowD b) (rowD a) = decide (b < a) := by
    show dataLt (.tuple (b.map .int)) (.tuple (a.map .int)) = _
    rw [dataLt_tuple]
    exact dataLt_ints b a
  unfold leD leR
  rw [e]
  by_cases h : b < a
  · have : ¬ a ≤ b := fun z => z h
    simp [h, this]
  · have : a ≤ b := h
    simp [h, this]
theorem leR_trans (a b c : List Int) : leR a b = true → leR b c = true → leR a c = true := by
  unfold leR
  simp only [decide_eq_true_eq]
  exact List.le_trans
theorem leR_total (a b : List Int) : (leR a b || leR b a) = true := by
  unfold leR
  rw [Bool.or_eq_true, decide_eq_true_eq, decide_eq_true_eq]
  exact List.le_total a b
theorem leR_anti {a b : List Int} (h1 : leR a b = true) (h2 : leR b a = true) : a = b := List.le_antisymm (of_decide_eq_true h1) (of_decide_eq_true h2)
def sortR (ws : List (List Int)) : List (List Int) := ws.mergeSort leR
theorem sortR_perm (ws : List (List Int)) : (sortR ws).Perm ws := List.mergeSort_perm ws leR
theorem sortR_sorted (ws : List (List Int)) : (sortR ws).Pairwise fun a b => leR a b = true := List.pairwise_mergeSort leR_trans leR_total ws
/-- one sorted list -/
theorem sorted_unique : ∀ {xs ys : List (List Int)}, xs.Perm ys → (xs.Pairwise fun a b => leR a b = true) → (ys.Pairwise fun a b => leR a b = true) → xs = ys
  | [], ys, p, _, _ => by rw [List.nil_perm.mp p]
  | x :: xs, [], p, _, _ => by cases List.perm_nil.mp p
  | x :: xs, y :: ys, p, h1, h2 => by
    rw [List.pairwise_cons] at h1 h2
    have e : x = y := by
      have m1 : x ∈ y :: ys := p.mem_iff.mp (.head _)
      have m2 : y ∈ x :: xs := p.mem_iff.mpr (.head _)
      rcases List.mem_cons.mp m1 with e | m1
      · exact e
      · rcases List.mem_cons.mp m2 with e | m2
        · exact e.symm
        · exact leR_anti (h1.1 y m2) (h2.1 x m1)
    subst e
    rw [sorted_unique (List.perm_cons x |>.mp p) h1.2 h2.2]
theorem sortR_eq {xs ys : List (List Int)} (p : xs.Perm ys) : sortR xs = sortR ys := sorted_unique ((sortR_perm xs).trans (p.trans (sortR_perm ys).symm)) (sortR_sorted xs) (sortR_sorted ys)
theorem sortR_filter (xs : List (List Int)) (q : List Int → Bool) : sortR (xs.filter q) = (sortR xs).filter q :=
  sorted_unique ((sortR_perm _).trans ((sortR_perm xs).symm.filter q)) (sortR_sorted _) ((sortR_sorted xs).filter q)

theorem alike_row (a b : List Int) : alike (rowD a) (rowD b) = true := by
  show alike (.tuple (a.map .int)) (.tuple (b.map .int)) = true
  unfold alike
  exact alike_ints a b
theorem sortD_rows (ws : List (List Int)) (hl : ws.length ≤ lim) : sortD (ws.map rowD) = some ((sortR ws).map rowD) := by
  unfold sortD
  have h1 : allAlike (ws.map rowD) = true := by
    unfold allAlike
    simp [alike_row]
  have h2 : ((ws.map rowD).all fun d => decide (d.depth ≤ 60)) = true := by
    rw [List.all_map, List.all_eq_true]
    intro w _
    have := (pl_row (k := 0) w).2
    exact decide_eq_true (by omega)
  have h3 : ((ws.map rowD).all fun d => match d with | .none => false | _ => true) = true := by
    rw [List.all_map, List.all_eq_true]
    intro w _
    rfl
  refine (if_pos ?_).trans ?_
  · rw [Bool.and_eq_true, Bool.and_eq_true, Bool.and_eq_true, decide_eq_true_eq, List.length_map]
    exact ⟨⟨⟨h1, h2⟩, h3⟩, hl⟩
  congr 1
  unfold sortR
  have := List.map_mergeSort (r := leR) (s := leD) (f := rowD) (l := ws) fun a _ b _ => (leD_row a b).symm
  exact this.symm
end Mp

/-! V1d: a whole for by an invariant. -/
namespace Mp
open PySem

theorem for_exec {call : Call} {fuel : Nat} {t : T} {it : I} {keep : List Nat} {body : Ss} {σ : Ev} {s s1 : Src} {ds : List D} (P : Nat → Ev → Src → Prop) (hl : wantsLock it σ = false) (hi : evI call false it σ s = some (ds, s1))
    (p0 : P 0 (keepE keep σ) s1)
    (step : ∀ j d σ s, ds[j]? = some d → P j σ s → ∃ σ1 σ2 s', bindT t d σ = some σ1 ∧ execs call fuel body σ1 s = some (.next σ2, s') ∧ P (j + 1) (keepE keep σ2) s') :
    ∃ σ' s', exec call fuel (.for_ t it keep body) σ s = some (.next σ', s') ∧ P ds.length σ' s' := by
  obtain ⟨σ', s', e, p⟩ := for_inv (f := fun d σ1 => bnd (lft (bindT t d σ1)) fun σ2 => bnd (execs call fuel body σ2) fun fl => match fl with
      | .next σ3 => ret (.next (keepE keep σ3))
      | .ret x => ret (.ret x)) P ds 0 (keepE keep σ) s1 (by
      intro j d σ s hj hp
      rw [Nat.zero_add] at hp ⊢
      obtain ⟨σ1, σ2, s', e1, e2, p⟩ := step j d σ s hj hp
      refine ⟨keepE keep σ2, s', ?_, p⟩
      rw [lft_eq e1, bnd_ret]
      rw [bnd_eq e2]
      rfl) p0
  refine ⟨σ', s', ?_, by rw [Nat.zero_add] at p; exact p⟩
  show (if wantsLock it σ then stuck else bnd _ _) s = _
  rw [hl]
  show bnd _ _ s = _
  rw [bnd_eq hi]
  exact e

theorem while_exec {call : Call} {fuel : Nat} {c : E} {keep : List Nat} {body : Ss} {σ : Ev} {s : Src} (P : Nat → Ev → Src → Prop) (Q : Ev → Src → Prop) (m : Nat) (hf : m < fuel)
    (p0 : P m (keepE keep σ) s)
    (step : ∀ m σ s, P m σ s → (∃ s', ev call false c σ s = some (.bool false, s') ∧ Q σ s') ∨ (∃ m' σ2 s1 s2, ev call false c σ s = some (.bool true, s1) ∧ execs call fuel body σ s1 = some (.next σ2, s2) ∧ m' < m ∧ P m' (keepE keep σ2) s2)) :
    ∃ σ' s', exec call fuel (.while_ c keep body) σ s = some (.next σ', s') ∧ Q σ' s' := by
  refine while_inv (f := fun σ1 => bnd (ev call false c σ1) fun d => match d with
      | .bool true => bnd (execs call fuel body σ1) fun fl => (match fl with
        | .next σ3 => ret (some (.next (keepE keep σ3)))
        | .ret x => ret (some (.ret x)))
      | .bool false => ret none
      | _ => stuck) P Q m fuel (keepE keep σ) s hf p0 ?_
  intro m σ s hp
  rcases step m σ s hp with ⟨s', e, q⟩ | ⟨m', σ2, s1, s2, e1, e2, hm, p⟩
  · refine .inl ⟨s', ?_, q⟩
    rw [bnd_eq e]
    rfl
  · refine .inr ⟨m', keepE keep σ2, s2, ?_, hm, p⟩
    rw [bnd_eq e1]
    show bnd _ _ s1 = _
    rw [bnd_eq e2]
    rfl
end Mp

/-! V1e: terms, rule by rule. -/
namespace Mp
open PySem
section
variable {call : Call} {fuel : Nat} {b : Bool} {σ σ' : Ev} {s s1 s2 s3 : Src}

theorem r_var {i : Nat} {d : D} (h : rdSlot b σ i = some d) : ev call b (.var i) σ s = some (d, s) := by
  show lft (rdSlot b σ i) s = _
  rw [lft_eq h]
  rfl
theorem r_int (i : Int) : ev call b (.int i) σ s = some (.int i, s) := rfl
theorem r_bool (i : Bool) : ev call b (.bool i) σ s = some (.bool i, s) := rfl
theorem r_cmp {o : COp} {x y : E} {dx dy : D} {c : Bool} (h1 : ev call true x σ s = some (dx, s1)) (h2 : ev call true y σ s1 = some (dy, s2)) (h3 : cop o dx dy = some c) : ev call b (.cmp o x y) σ s = some (.bool c, s2) := by
  show bnd (ev call true x σ) _ s = _
  rw [bnd_eq h1]
  rw [bnd_eq h2, lft_eq h3]
  rfl
theorem r_bin {o : BOp} {x y : E} {dx dy d : D} (h1 : ev call true x σ s = some (dx, s1)) (h2 : ev call true y σ s1 = some (dy, s2)) (h3 : bop o dx dy = some d) : ev call b (.bin o x y) σ s = some (d, s2) := by
  show bnd (ev call true x σ) _ s = _
  rw [bnd_eq h1]
  rw [bnd_eq h2, lft_eq h3]
  rfl
theorem r_idx {x y : E} {dx dy d : D} (h1 : ev call true x σ s = some (dx, s1)) (h2 : ev call false y σ s1 = some (dy, s2)) (h3 : itemAt dx dy = some d) : ev call b (.idx x y) σ s = some (d, s2) := by
  show bnd (ev call true x σ) _ s = _
  rw [bnd_eq h1]
  rw [bnd_eq h2, lft_eq h3]
  rfl
theorem r_not {x : E} {c : Bool} (h : ev call false x σ s = some (.bool c, s1)) : ev call b (.not_ x) σ s = some (.bool (!c), s1) := by
  show bnd (ev call false x σ) _ s = _
  rw [bnd_eq h]
  rfl
theorem r_notB {x : E} {c t : Bool} (h : ev call false x σ s = some (.bool c, s1)) : ev call b (.notB x t) σ s = some (.bool (!decide (c = t)), s1) := by
  show bnd (ev call false x σ) _ s = _
  rw [bnd_eq h]
  rfl
theorem r_or_f {x y : E} {c : Bool} (h1 : ev call false x σ s = some (.bool false, s1)) (h2 : ev call false y σ s1 = some (.bool c, s2)) : ev call b (.or_ x y) σ s = some (.bool c, s2) := by
  show bnd (ev call false x σ) _ s = _
  rw [bnd_eq h1]
  show bnd (ev call false y σ) _ s1 = _
  rw [bnd_eq h2]
  rfl
theorem r_and_t {x y : E} {c : Bool} (h1 : ev call false x σ s = some (.bool true, s1)) (h2 : ev call false y σ s1 = some (.bool c, s2)) : ev call b (.and_ x y) σ s = some (.bool c, s2) := by
  show bnd (ev call false x σ) _ s = _
  rw [bnd_eq h1]
  show bnd (ev call false y σ) _ s1 = _
  rw [bnd_eq h2]
  rfl
theorem r_and_f {x y : E} (h1 : ev call false x σ s = some (.bool false, s1)) : ev call b (.and_ x y) σ s = some (.bool false, s1) := by
  show bnd (ev call false x σ) _ s = _
  rw [bnd_eq h1]
  rfl
theorem r_ite {x y c : E} {t : Bool} {d : D} (h1 : ev call false c σ s = some (.bool t, s1)) (h2 : (if t then ev call false x σ else ev call false y σ) s1 = some (d, s2)) : ev call b (.ite c x y) σ s = some (d, s2) := by
  show bnd (ev call false c σ) _ s = _
  rw [bnd_eq h1]
  exact h2
theorem r_bf1 {f : Bf} {x : E} {d d' : D} (h : ev call (f != .repr) x σ s = some (d, s1)) (h2 : bf f [d] = some d') : ev call b (.bf f (.cons x .nil)) σ s = some (d', s1) := by
  show bnd (bnd (ev call (f != .repr) x σ) _) _ s = _
  unfold bnd at *
  rw [h]
  show lft (bf f [d]) s1 = _
  rw [lft_eq h2]
  rfl
theorem r_bf2 {f : Bf} {x y : E} {d d' r : D} (h : ev call (f != .repr) x σ s = some (d, s1)) (h1 : ev call (f != .repr) y σ s1 = some (d', s2)) (h2 : bf f [d, d'] = some r) : ev call b (.bf f (.cons x (.cons y .nil))) σ s = some (r, s2) := by
  show bnd (bnd (ev call (f != .repr) x σ) fun d => bnd (bnd (ev call (f != .repr) y σ) fun d => bnd (ret []) fun ds => ret (d :: ds)) fun ds => ret (d :: ds)) _ s = _
  unfold bnd at *
  simp only [h, h1]
  show lft (bf f [d, d']) s2 = _
  rw [lft_eq h2]
  rfl
theorem r_es1 {x : E} {d : D} (h : ev call b x σ s = some (d, s1)) : evs call b (.cons x .nil) σ s = some ([d], s1) := by
  show bnd (ev call b x σ) _ s = _
  rw [bnd_eq h]
  rfl
theorem r_es {x : E} {r : Es} {d : D} {ds : List D} (h : ev call b x σ s = some (d, s1)) (h2 : evs call b r σ s1 = some (ds, s2)) : evs call b (.cons x r) σ s = some (d :: ds, s2) := by
  show bnd (ev call b x σ) _ s = _
  rw [bnd_eq h]
  rw [bnd_eq h2]
  rfl
theorem r_tup {es : Es} {ds : List D} (h : evs call false es σ s = some (ds, s1)) (hl : ds.length ≤ lim) : ev call b (.tup es) σ s = some (.tuple ds, s1) := by
  show bnd (evs call false es σ) _ s = _
  rw [bnd_eq h, if_pos hl]
  rfl
theorem r_lst {es : Es} {ds : List D} (h : evs call false es σ s = some (ds, s1)) (hl : ds.length ≤ lim) : ev call b (.lst es) σ s = some (.list ds, s1) := by
  show bnd (evs call false es σ) _ s = _
  rw [bnd_eq h, if_pos hl]
  rfl
theorem r_lst0 : ev call b (.lst .nil) σ s = some (.list [], s) := r_lst rfl (Nat.zero_le _)
theorem r_call {f : String} {k : Option Nat} {es : Es} {ds : List D} {d : D} (hb : borrows σ es = false) (h : evs call false es σ s = some (ds, s1)) (hs : srcAt σ k = true) (h2 : call f k.isSome ds s1 = some (d, s2)) : ev call b (.call f k es) σ s = some (d, s2) := by
  show bnd (evs call (borrows σ es) es σ) (fun ds => if srcAt σ k then bnd (call f k.isSome ds) (fun d => if borrows σ es && !(isPure d || (ds.all noDict && !hasL d)) then stuck else ret d) else stuck) s = _
  rw [hb]
  rw [bnd_eq h, if_pos hs]
  rw [bnd_eq h2]
  rfl
/-- a call that reads owned things -/
theorem r_callB {f : String} {k : Option Nat} {es : Es} {ds : List D} {d : D} (h : evs call true es σ s = some (ds, s1)) (h2 : call f k.isSome ds s1 = some (d, s2)) (hb : borrows σ es = true) (hs : srcAt σ k = true) (hp : (isPure d || (ds.all noDict && !hasL d)) = true) : ev call b (.call f k es) σ s = some (d, s2) := by
  show bnd (evs call (borrows σ es) es σ) (fun ds => if srcAt σ k then bnd (call f k.isSome ds) (fun d => if borrows σ es && !(isPure d || (ds.all noDict && !hasL d)) then stuck else ret d) else stuck) s = _
  rw [hb]
  rw [bnd_eq h, if_pos hs]
  rw [bnd_eq h2]
  show (if true && !(isPure d || (ds.all noDict && !hasL d)) then stuck else ret d) s2 = _
  rw [hp]
  rfl
theorem r_slice {x : E} {lo hi : Option E} {d r : D} {l h : Option Int} (h1 : ev call true x σ s = some (d, s1)) (h2 : evCut call lo σ s1 = some (l, s2)) (h3 : evCut call hi σ s2 = some (h, s3)) (h4 : sliceD d l h = some r) : ev call b (.slice x lo hi) σ s = some (r, s3) := by
  show bnd (ev call true x σ) _ s = _
  rw [bnd_eq h1]
  rw [bnd_eq h2]
  rw [bnd_eq h3, lft_eq h4]
  rfl
theorem r_over {x : E} {ds : List D} (h1 : ev call b x σ s = some (.list ds, s1)) : evI call b (.over x) σ s = some (ds, s1) := by
  show bnd (ev call b x σ) _ s = _
  rw [bnd_eq h1]
  rfl
theorem r_overT {x : E} {ds : List D} (h1 : ev call b x σ s = some (.tuple ds, s1)) : evI call b (.over x) σ s = some (ds, s1) := by
  show bnd (ev call b x σ) _ s = _
  rw [bnd_eq h1]
  rfl
theorem r_range1 {x : E} {i : Int} (h1 : ev call false x σ s = some (.int i, s1)) (h : rangeOk i = true) : evI call b (.range1 x) σ s = some (rangeD 0 i, s1) := by
  show bnd (ev call false x σ) _ s = _
  rw [bnd_eq h1]
  show (if rangeOk i then ret (rangeD 0 i) else stuck) s1 = _
  rw [if_pos h]
  rfl
theorem r_range2 {x y : E} {i j : Int} (h1 : ev call false x σ s = some (.int i, s1)) (h2 : ev call false y σ s1 = some (.int j, s2)) (h : rangeOk i = true) (h' : rangeOk j = true) : evI call b (.range2 x y) σ s = some (rangeD i j, s2) := by
  show bnd (ev call false x σ) _ s = _
  rw [bnd_eq h1]
  rw [bnd_eq h2]
  show (if rangeOk i && rangeOk j then ret (rangeD i j) else stuck) s2 = _
  rw [if_pos (by rw [h, h']; rfl)]
  rfl
theorem bnd_eqM {α β : Type} {x : M α} {f : α → M β} {a : α} (h : x = ret a) : bnd x f = f a := by rw [h]; rfl
/-- a comprehension without draws: one step each -/
theorem r_comp {α : Type} {elt c : E} {t : T} {it : I} {own : List Nat} (φ : α → D) (p : α → Bool) (ψ : α → D) (xs : List α) (h1 : evI call true it σ s = some (xs.map φ, s1)) (hl : xs.length ≤ lim)
    (h : ∀ x ∈ xs, ∀ s, ∃ σ', bindT t (φ x) (wipeE σ own) = some σ' ∧ ev call false c σ' s = some (.bool (p x), s) ∧ (p x = true → ev call false elt σ' s = some (ψ x, s))) : ev call b (.comp elt t it c own) σ s = some (.list ((xs.filter p).map ψ), s1) := by
  show bnd (evI call true it σ) _ s = _
  rw [bnd_eq h1]
  show bnd _ _ s1 = _
  refine (bnd_eq (comp_fm φ p ψ xs [] s1 (fun x hx s => ?_) (by simpa using hl))).trans rfl
  obtain ⟨σ', e1, e2, e3⟩ := h x hx s
  rw [lft_eq e1, bnd_ret]
  rw [bnd_eq e2]
  show (if p x then bnd (ev call false elt σ') (fun x => ret (some x)) else ret none) s = _
  cases hp : p x
  · rfl
  · show bnd _ _ s = _
    rw [bnd_eq (e3 hp)]
    rfl
theorem q_if {c : E} {x y : Ss} {t : Bool} {r : Fl} (h1 : ev call false c σ s = some (.bool t, s1)) (h2 : (if t then execs call fuel x σ else execs call fuel y σ) s1 = some (r, s2)) : exec call fuel (.if_ c x y) σ s = some (r, s2) := by
  show bnd (ev call false c σ) _ s = _
  rw [bnd_eq h1]
  exact h2
theorem q_iff {c : E} {x : Ss} (h1 : ev call false c σ s = some (.bool false, s1)) : exec call fuel (.if_ c x .nil) σ s = some (.next σ, s1) := q_if h1 rfl
theorem q_assign {i : Nat} {o : Bool} {e : E} {d : D} (h1 : ev call false e σ s = some (d, s1)) (h2 : asg σ i o d = some σ') : exec call fuel (.assign i o e) σ s = some (.next σ', s1) := by
  show bnd (ev call false e σ) _ s = _
  rw [bnd_eq h1]
  rw [lft_eq h2]
  rfl
theorem q_assigns {is : List (Nat × Bool)} {es : Es} {ds : List D} (h1 : evs call false es σ s = some (ds, s1)) (h2 : assignAll is ds σ = some σ') : exec call fuel (.assigns is es) σ s = some (.next σ', s1) := by
  show bnd (evs call false es σ) _ s = _
  rw [bnd_eq h1]
  rw [lft_eq h2]
  rfl
theorem q_unpack {t : T} {e : E} {d : D} (h1 : ev call false e σ s = some (d, s1)) (h2 : bindT t d σ = some σ') : exec call fuel (.unpack t e) σ s = some (.next σ', s1) := by
  show bnd (ev call false e σ) _ s = _
  rw [bnd_eq h1]
  rw [lft_eq h2]
  rfl
theorem q_ret {e : E} {d : D} (h : ev call (isVar e) e σ s = some (d, s1)) : exec call fuel (.ret e) σ s = some (.ret d, s1) := by
  show bnd (ev call (isVar e) e σ) _ s = _
  rw [bnd_eq h]
  rfl
end
end Mp

/-! V1f: sorting numbers; the least one. -/
namespace Mp
open PySem PySem.W

def leI (a b : Int) : Bool := decide (a ≤ b)
theorem leD_int (a b : Int) : leD (.int a) (.int b) = leI a b := by
  have e : dataLt (.int b) (.int a) = decide (b < a) := dataLt_int b a
  unfold leD leI
  rw [e]
  by_cases h : b < a
  · have : ¬ a ≤ b := by omega
    simp [h, this]
  · have : a ≤ b := by omega
    simp [h, this]
theorem leI_trans (a b c : Int) : leI a b = true → leI b c = true → leI a c = true := by
  unfold leI
  simp only [decide_eq_true_eq]
  omega
theorem leI_total (a b : Int) : (leI a b || leI b a) = true := by
  unfold leI
  rw [Bool.or_eq_true, decide_eq_true_eq, decide_eq_true_eq]
  omega
def sortI (ws : List Int) : List Int := ws.mergeSort leI
theorem sortI_perm (ws : List Int) : (sortI ws).Perm ws := List.mergeSort_perm ws leI
theorem sortI_sorted (ws : List Int) : (sortI ws).Pairwise fun a b => a ≤ b := (List.pairwise_mergeSort leI_trans leI_total ws).imp fun h => of_decide_eq_true h
theorem alike_int (a b : Int) : alike (.int a) (.int b) = true := by
  first | rfl | (unfold alike; rfl) | simp [alike]
theorem sortD_ints (ws : List Int) (hl : ws.length ≤ lim) : sortD (ws.map .int) = some ((sortI ws).map .int) := by
  unfold sortD
  have h1 : allAlike (ws.map PyData.int) = true := by
    unfold allAlike
    simp [alike_int]
  have h2 : ((ws.map PyData.int).all fun d => decide (d.depth ≤ 60)) = true := by
    rw [List.all_map, List.all_eq_true]
    intro w _
    have := (pl_int (k := 0) w).2
    exact decide_eq_true (by omega)
  have h3 : ((ws.map PyData.int).all fun d => match d with | .none => false | _ => true) = true := by
    rw [List.all_map, List.all_eq_true]
    intro w _
    rfl
  refine (if_pos ?_).trans ?_
  · rw [Bool.and_eq_true, Bool.and_eq_true, Bool.and_eq_true, decide_eq_true_eq, List.length_map]
    exact ⟨⟨⟨h1, h2⟩, h3⟩, hl⟩
  · congr 1
    unfold sortI
    rw [List.map_mergeSort]
    intro a _ b _
    rw [leD_int]

theorem asInts_map (ws : List Int) : asInts (ws.map .int) = some ws := by
  induction ws with
  | nil => rfl
  | cons x w ih =>
    show (asInts (w.map .int)).map (x :: ·) = _
    rw [ih]
    rfl
theorem minI_least (x : Int) (l : List Int) : ∃ m, minI (x :: l) = some m ∧ m ∈ x :: l ∧ ∀ y ∈ x :: l, m ≤ y := by
  refine ⟨_, rfl, ?_⟩
  induction l generalizing x with
  | nil => exact ⟨.head _, fun y hy => by rw [List.mem_singleton.mp hy]; exact Int.le_refl _⟩
  | cons z l ih =>
    rw [List.foldl_cons]
    obtain ⟨h1, h2⟩ := ih (if z < x then z else x)
    refine ⟨?_, fun y hy => ?_⟩
    · rcases List.mem_cons.mp h1 with h | h
      · rw [h]
        split <;> simp
      · exact .tail _ (.tail _ h)
    · have h3 := h2 _ (.head _)
      rcases List.mem_cons.mp hy with rfl | hy
      · refine Int.le_trans h3 ?_
        split <;> omega
      · rcases List.mem_cons.mp hy with rfl | hy
        · refine Int.le_trans h3 ?_
          split <;> omega
        · exact h2 y (.tail _ hy)
theorem head_least {l : List Int} {x : Int} {r : List Int} (h : sortI l = x :: r) : x ∈ l ∧ ∀ y ∈ l, x ≤ y := by
  have p := sortI_perm l
  have s := sortI_sorted l
  rw [h] at p s
  refine ⟨p.mem_iff.mp (.head _), fun y hy => ?_⟩
  rcases List.mem_cons.mp (p.mem_iff.mpr hy) with rfl | h2
  · exact Int.le_refl _
  · exact (List.pairwise_cons.mp s).1 y h2
end Mp

/-! R1: the rules that every law takes (gathered from the first law's texts). -/
namespace Mp
open PySem
theorem seqD_row (w : List Int) : seqD (rowD w) = some (w.map .int) := rfl
theorem seqD_tup (ds : List D) : seqD (.tuple ds) = some ds := rfl
theorem tup_row (w : List Int) (x : Int) : PyData.tuple (w.map .int ++ [.int x]) = rowD (w ++ [x]) := by
  unfold rowD
  rw [List.map_append]
  rfl
theorem exs_cons {call : Call} {fuel : Nat} {a : S} {r : Ss} {σ σ' : Ev} {s s' : Src} (h : exec call fuel a σ s = some (.next σ', s')) : execs call fuel (.cons a r) σ s = execs call fuel r σ' s' := by
  show bnd (exec call fuel a σ) _ s = _
  rw [bnd_eq h]
theorem exs_ret {call : Call} {fuel : Nat} {a : S} {r : Ss} {σ : Ev} {s s' : Src} {d : D} (h : exec call fuel a σ s = some (.ret d, s')) : execs call fuel (.cons a r) σ s = some (.ret d, s') := by
  show bnd (exec call fuel a σ) _ s = _
  rw [bnd_eq h]
  rfl
theorem exs_nil {call : Call} {fuel : Nat} {σ : Ev} {s : Src} : execs call fuel .nil σ s = some (.next σ, s) := rfl

theorem r_cut {call : Call} {σ : Ev} {s s1 : Src} {e : E} {i : Int} (h : ev call false e σ s = some (.int i, s1)) : evCut call (some e) σ s = some (some i, s1) := by
  unfold evCut
  rw [bnd_eq h]
  rfl
theorem cut_nn {n d : Nat} {i : Int} (h : 0 ≤ i) : cutIx n d (some i) = min i.toNat n := by
  show (if i < 0 then (i + n).toNat else min i.toNat n) = _
  rw [if_neg (by omega)]
theorem cut_take (xs : List D) {c : Int} (h : 0 ≤ c) : cutD xs none (some c) = xs.take c.toNat := by
  unfold cutD
  rw [cut_nn h]
  show (xs.drop 0).take (min c.toNat xs.length - 0) = _
  rw [List.drop_zero, Nat.sub_zero, List.take_eq_take_iff]
  omega
theorem r_overS {call : Call} {b : Bool} {σ : Ev} {s s1 : Src} {x : E} {d : D} {ds : List D} (h1 : ev call b x σ s = some (d, s1)) (h : d = .list ds ∨ d = .tuple ds) : evI call b (.over x) σ s = some (ds, s1) := by
  rcases h with rfl | rfl
  · exact r_over h1
  · exact r_overT h1

theorem r_items {call : Call} {b : Bool} {σ : Ev} {s : Src} {i : Nat} {kvs : List (D × D)} (h : rdSlot b σ i = some (.dict kvs)) (hk : kvs.all (fun p => !isTupKey p.1) = true) : evI call b (.items i) σ s = some (kvs.map fun p => .tuple [p.1, p.2], s) := by
  unfold evI
  rw [lft_eq h, bnd_ret]
  show (if kvs.all (fun p => !isTupKey p.1) then ret (kvs.map fun p => PyData.tuple [p.1, p.2]) else stuck) s = _
  rw [if_pos hk]
  rfl
/-! ### dicts with keys of one sort -/
section
variable {α : Type} [DecidableEq α]
def kvD (φ : α → D) (kvs : List (α × D)) : List (D × D) := kvs.map fun p => (φ p.1, p.2)
def mput (kvs : List (α × D)) (k : α) (v : D) : List (α × D) := if k ∈ kvs.map (·.1) then kvs.map fun p => if p.1 = k then (p.1, v) else p else kvs ++ [(k, v)]
theorem dhas_map {φ : α → D} (h : ∀ a b, (φ a).eqv (φ b) = decide (a = b)) (kvs : List (α × D)) (k : α) : dhas (kvD φ kvs) (φ k) = decide (k ∈ kvs.map (·.1)) := by
  unfold dhas kvD
  induction kvs with
  | nil => rfl
  | cons p r ih =>
    rw [List.map_cons, List.any_cons, ih, h, List.map_cons]
    by_cases e : p.1 = k <;> by_cases e2 : k ∈ r.map (·.1) <;> simp [e, e2, eq_comm]
    · exact fun hh => e hh.symm
theorem dget_map {φ : α → D} (h : ∀ a b, (φ a).eqv (φ b) = decide (a = b)) (kvs : List (α × D)) (k : α) : dget (kvD φ kvs) (φ k) = (kvs.find? fun p => decide (p.1 = k)).map (·.2) := by
  unfold dget kvD
  rw [List.find?_map, Option.map_map]
  have : ((fun p : D × D => p.1.eqv (φ k)) ∘ fun p : α × D => (φ p.1, p.2)) = fun p => decide (p.1 = k) := funext fun p => h p.1 k
  rw [this]
  rfl
theorem dput_map {φ : α → D} (h : ∀ a b, (φ a).eqv (φ b) = decide (a = b)) (kvs : List (α × D)) (k : α) (v : D) : dput (kvD φ kvs) (φ k) v = kvD φ (mput kvs k v) := by
  unfold dput mput
  rw [dhas_map h]
  by_cases e : k ∈ kvs.map (·.1)
  · rw [if_pos (decide_eq_true e), if_pos e]
    unfold kvD
    rw [List.map_map, List.map_map]
    refine List.map_congr_left fun p _ => ?_
    show (if (φ p.1).eqv (φ k) then (φ p.1, v) else (φ p.1, p.2)) = (fun q : α × D => (φ q.1, q.2)) (if p.1 = k then (p.1, v) else p)
    rw [h]
    by_cases e2 : p.1 = k <;> simp [e2]
  · rw [if_neg (by simpa using e), if_neg e]
    unfold kvD
    rw [List.map_append]
    rfl
theorem keyFits_map {φ : α → D} (b : Bool) (h1 : ∀ a, keyOk (φ a) = true) (h2 : ∀ a, isTupKey (φ a) = b) (kvs : List (α × D)) (k : α) : keyFits (kvD φ kvs) (φ k) = true := by
  unfold keyFits kvD
  rw [h1, List.all_map, Bool.true_and, List.all_eq_true]
  intro p _
  show (isTupKey (φ p.1) == isTupKey (φ k)) = true
  rw [h2, h2, beq_self_eq_true]
end
theorem keyOk_pD (p : Int × Int) : keyOk (pD p) = true := rfl

theorem dputs_nodup : ∀ (w : List Int) (kvs : List (Int × D)), w.Nodup → (∀ x ∈ w, x ∉ kvs.map (·.1)) → kvs.length + w.length ≤ lim →
    dputs (kvD .int kvs) (w.map fun x => (.int x, .bool true)) = some (kvD .int (kvs ++ w.map fun x => (x, .bool true)))
  | [], kvs, _, _, _ => by simp [dputs]
  | x :: w, kvs, nd, h, hl => by
    rw [List.nodup_cons] at nd
    rw [List.length_cons] at hl
    show (if keyFits (kvD .int kvs) (.int x) && decide ((kvD .int kvs).length < lim) then dputs (dput (kvD .int kvs) (.int x) (.bool true)) _ else none) = _
    have hk : (kvD .int kvs).length = kvs.length := by unfold kvD; rw [List.length_map]
    rw [keyFits_map (φ := PyData.int) false (fun _ => rfl) (fun _ => rfl), hk, Bool.true_and, if_pos (decide_eq_true (by omega)), dput_map eqv_int]
    have e : mput kvs x (.bool true) = kvs ++ [(x, .bool true)] := if_neg (h x (.head _))
    rw [e]
    refine (dputs_nodup w (kvs ++ [(x, .bool true)]) nd.2 (fun y hy => by
      rw [List.map_append, List.mem_append]
      rintro (h1 | h1)
      · exact h y (.tail _ hy) h1
      · rw [List.map_cons, List.map_nil, List.mem_singleton] at h1
        exact nd.1 ((show y = x from h1) ▸ hy)) (by rw [List.length_append, List.length_singleton]; omega)).trans ?_
    rw [List.append_assoc]
    rfl

/-- keepE, slot by slot -/
def keepF (keep : List Nat) : Nat → Ev → Ev
  | _, [] => []
  | k, v :: r => (if keep.contains k then v else .no) :: keepF keep (k + 1) r
theorem keepF_eq (keep : List Nat) (σ : Ev) : keepE keep σ = keepF keep 0 σ := by
  have : ∀ (σ : Ev) (k : Nat), σ.mapIdx (fun i v => if keep.contains (i + k) then v else .no) = keepF keep k σ := by
    intro σ
    induction σ with
    | nil => intro k; rfl
    | cons v r ih =>
      intro k
      rw [List.mapIdx_cons, keepF, ← ih (k + 1), Nat.zero_add]
      congr 2
      funext i w
      rw [show i + 1 + k = i + (k + 1) by omega]
  exact this σ 0
/-- what a call gives; the name first, so that it is looked at first -/
structure Gives (f : String) (c : Bool) (call : Call) (ds : List D) (s : Src) (d : D) (s' : Src) : Prop where
  eq : call f c ds s = some (d, s')
theorem gv {f : String} {c : Bool} {call : Call} {ds : List D} {s : Src} {d : D} {s' : Src} (h : call f c ds s = some (d, s')) : Gives f c call ds s d s' := ⟨h⟩
section
variable {call : Call} {fuel : Nat} {b : Bool} {σ σ' : Ev} {s s1 s2 s3 : Src}

theorem r_none : ev call b .none σ s = some (.none, s) := rfl
theorem r_str (x : Str) : ev call b (.str x) σ s = some (.str x, s) := rfl
theorem r_dict0 : ev call b .dict0 σ s = some (.dict [], s) := rfl
theorem r_es0 : evs call b .nil σ s = some ([], s) := rfl
theorem r_cut0 : evCut call .none σ s = some (none, s) := rfl
theorem r_neg {x : E} {i : Int} (h : ev call false x σ s = some (.int i, s1)) : ev call b (.neg x) σ s = some (.int (-i), s1) := by
  show bnd (ev call false x σ) _ s = _
  rw [bnd_eq h]
  rfl
theorem r_isB {x : E} {c t : Bool} (h : ev call false x σ s = some (.bool c, s1)) : ev call b (.isB x t) σ s = some (.bool (decide (c = t)), s1) := by
  show bnd (ev call false x σ) _ s = _
  rw [bnd_eq h]
  rfl
theorem r_isNone {x : E} {d : D} (h : ev call true x σ s = some (d, s1)) : ev call b (.isNone x) σ s = some (.bool (isNoneD d), s1) := by
  show bnd (ev call true x σ) _ s = _
  rw [bnd_eq h]
  rfl
theorem r_notNone {x : E} {d : D} (h : ev call true x σ s = some (d, s1)) : ev call b (.notNone x) σ s = some (.bool (!isNoneD d), s1) := by
  show bnd (ev call true x σ) _ s = _
  rw [bnd_eq h]
  rfl
theorem r_isinst {t : Ty} {x : E} {d : D} (h : ev call true x σ s = some (d, s1)) : ev call b (.isinst t x) σ s = some (.bool (isTy t d), s1) := by
  show bnd (ev call true x σ) _ s = _
  rw [bnd_eq h]
  rfl
theorem r_or_t {x y : E} (h1 : ev call false x σ s = some (.bool true, s1)) : ev call b (.or_ x y) σ s = some (.bool true, s1) := by
  show bnd (ev call false x σ) _ s = _
  rw [bnd_eq h1]
  rfl
/-- and, the second one without draws -/
theorem r_and {x y : E} {c c' : Bool} (h1 : ev call false x σ s = some (.bool c, s1)) (h2 : c = true → ev call false y σ s1 = some (.bool c', s1)) : ev call b (.and_ x y) σ s = some (.bool (c && c'), s1) := by
  cases c
  · exact r_and_f h1
  · exact r_and_t h1 (h2 rfl)
theorem r_or {x y : E} {c c' : Bool} (h1 : ev call false x σ s = some (.bool c, s1)) (h2 : c = false → ev call false y σ s1 = some (.bool c', s1)) : ev call b (.or_ x y) σ s = some (.bool (c || c'), s1) := by
  cases c
  · exact r_or_f h1 (h2 rfl)
  · exact r_or_t h1
/-- or, the first one false -/
theorem r_or_ff {x y : E} {c c' : Bool} (h1 : ev call false x σ s = some (.bool c, s1)) (hc : c = false) (h2 : ev call false y σ s1 = some (.bool c', s2)) : ev call b (.or_ x y) σ s = some (.bool c', s2) := by
  subst hc
  exact r_or_f h1 h2
theorem exs_step {a : S} {r : Ss} {fl : Fl} (h : exec call fuel a σ s = some (.next σ', s1)) (h2 : execs call fuel r σ' s1 = some (fl, s2)) : execs call fuel (.cons a r) σ s = some (fl, s2) := (exs_cons h).trans h2
theorem exs_assign {i : Nat} {o : Bool} {e : E} {d : D} {r : Ss} {fl : Fl} (h1 : ev call false e σ s = some (d, s1)) (h2 : asg σ i o d = some σ') (h3 : execs call fuel r σ' s1 = some (fl, s2)) : execs call fuel (.cons (.assign i o e) r) σ s = some (fl, s2) := exs_step (q_assign h1 h2) h3
theorem exs_assigns {is : List (Nat × Bool)} {es : Es} {ds : List D} {r : Ss} {fl : Fl} (h1 : evs call false es σ s = some (ds, s1)) (h2 : assignAll is ds σ = some σ') (h3 : execs call fuel r σ' s1 = some (fl, s2)) : execs call fuel (.cons (.assigns is es) r) σ s = some (fl, s2) := exs_step (q_assigns h1 h2) h3
theorem exs_unpack {t : T} {e : E} {d : D} {r : Ss} {fl : Fl} (h1 : ev call false e σ s = some (d, s1)) (h2 : bindT t d σ = some σ') (h3 : execs call fuel r σ' s1 = some (fl, s2)) : execs call fuel (.cons (.unpack t e) r) σ s = some (fl, s2) := exs_step (q_unpack h1 h2) h3
theorem exs_retv {e : E} {r : Ss} {d : D} (h : ev call (isVar e) e σ s = some (d, s1)) : execs call fuel (.cons (.ret e) r) σ s = some (.ret d, s1) := exs_ret (q_ret h)
theorem r_callv {f : String} {k : Option Nat} {es : Es} {ds : List D} {d : D} (h : evs call false es σ s = some (ds, s1)) (h2 : Gives f k.isSome call ds s1 d s2) (hb : borrows σ es = false) (hs : srcAt σ k = true) : ev call b (.call f k es) σ s = some (d, s2) := r_call hb h hs h2.eq
/-! a goal's kind -/
theorem g_cop {o : COp} {x y : D} {c : Bool} (h : cop o x y = some c) : cop o x y = some c := h
theorem g_item {x y r : D} (h : itemAt x y = some r) : itemAt x y = some r := h
theorem g_bop {o : BOp} {x y r : D} (h : bop o x y = some r) : bop o x y = some r := h
theorem g_bf {o : Bf} {x : List D} {r : D} (h : bf o x = some r) : bf o x = some r := h
theorem g_slice {x r : D} {l m : Option Int} (h : sliceD x l m = some r) : sliceD x l m = some r := h
theorem g_asg {i : Nat} {o : Bool} {d : D} (h : asg σ i o d = some σ') : asg σ i o d = some σ' := h
theorem g_assigns {is : List (Nat × Bool)} {ds : List D} (h : assignAll is ds σ = some σ') : assignAll is ds σ = some σ' := h
theorem g_bind {t : T} {d : D} (h : bindT t d σ = some σ') : bindT t d σ = some σ' := h
theorem g_gives {call : Call} {f : String} {c : Bool} {ds : List D} {d : D} (h : Gives f c call ds s d s1) : Gives f c call ds s d s1 := h
theorem g_comp {elt c : E} {t : T} {it : I} {own : List Nat} {d : D} (h : ev call b (.comp elt t it c own) σ s = some (d, s1)) : ev call b (.comp elt t it c own) σ s = some (d, s1) := h
theorem asg_f {i : Nat} {d : D} (h : σ.set i (.frz d) = σ') : asg σ i false d = some σ' := by
  subst h
  rfl
theorem asg_o {i : Nat} {d : D} (h0 : isSeqOrDict d = true) (h : σ.set i (.own d) = σ') : asg σ i true d = some σ' := by
  subst h
  unfold asg
  rw [h0]
  rfl
theorem bind_n {i : Nat} {d : D} (h : σ.set i (.frz d) = σ') : bindT (.name i) d σ = some σ' := by
  subst h
  rfl
theorem r_repr {x : E} {d r : D} (h : ev call false x σ s = some (d, s1)) (h2 : bf .repr [d] = some r) : ev call b (.bf .repr (.cons x .nil)) σ s = some (r, s1) := r_bf1 h h2
theorem r_bf1t {f : Bf} {x : E} {d r : D} (h : ev call true x σ s = some (d, s1)) (h2 : bf f [d] = some r) (hf : (f != .repr) = true) : ev call b (.bf f (.cons x .nil)) σ s = some (r, s1) := r_bf1 (by rw [hf]; exact h) h2
theorem r_bf2t {f : Bf} {x y : E} {d d' r : D} (h : ev call true x σ s = some (d, s1)) (h1 : ev call true y σ s1 = some (d', s2)) (h2 : bf f [d, d'] = some r) (hf : (f != .repr) = true) : ev call b (.bf f (.cons x (.cons y .nil))) σ s = some (r, s2) := r_bf2 (by rw [hf]; exact h) (by rw [hf]; exact h1) h2
theorem g_bnr {f : Bf} (h : (f != .repr) = true) : (f != .repr) = true := h
theorem g_false {t : Bool} (h : t = false) : t = false := h
theorem g_borrows {es : Es} (h : borrows σ es = false) : borrows σ es = false := h
theorem g_src {k : Option Nat} (h : srcAt σ k = true) : srcAt σ k = true := h
theorem g_len {ds : List D} (h : ds.length ≤ lim) : ds.length ≤ lim := h
/-- a test that fails, nothing otherwise -/
theorem q_no {c : E} {x : Ss} {t : Bool} (h1 : ev call false c σ s = some (.bool t, s1)) (ht : t = false) : exec call fuel (.if_ c x .nil) σ s = some (.next σ, s1) := by
  subst ht
  exact q_iff h1
theorem q_yes {c : E} {x y : Ss} {t : Bool} {fl : Fl} (h1 : ev call false c σ s = some (.bool t, s1)) (ht : t = true) (h2 : execs call fuel x σ s1 = some (fl, s2)) : exec call fuel (.if_ c x y) σ s = some (fl, s2) := by
  subst ht
  exact q_if h1 h2
theorem q_else {c : E} {x y : Ss} {t : Bool} {fl : Fl} (h1 : ev call false c σ s = some (.bool t, s1)) (ht : t = false) (h2 : execs call fuel y σ s1 = some (fl, s2)) : exec call fuel (.if_ c x y) σ s = some (fl, s2) := by
  subst ht
  exact q_if h1 h2
theorem exs_no {c : E} {x r : Ss} {t : Bool} {fl : Fl} (h1 : ev call false c σ s = some (.bool t, s1)) (ht : t = false) (h2 : execs call fuel r σ s1 = some (fl, s2)) : execs call fuel (.cons (.if_ c x .nil) r) σ s = some (fl, s2) := exs_step (q_no h1 ht) h2
theorem fin_of {keep : List Nat} {body : Ss} {E σ2 : Ev} (h : execs call fuel body σ s = some (.next σ2, s1)) (k : keepF keep 0 σ2 = E) : ∃ σ2, execs call fuel body σ s = some (.next σ2, s1) ∧ keepE keep σ2 = E := ⟨σ2, h, (keepF_eq _ _).trans k⟩
theorem fin2_of {keep : List Nat} {body : Ss} {E σ2 : Ev} (h : execs call fuel body σ s = some (.next σ2, s1)) (k : keepF keep 0 σ2 = E) : ∃ σ2 s1, execs call fuel body σ s = some (.next σ2, s1) ∧ keepE keep σ2 = E := ⟨σ2, s1, h, (keepF_eq _ _).trans k⟩
/-- a test that returns -/
theorem exs_if_ret {c : E} {x y r : Ss} {t : Bool} {d : D} (h1 : ev call false c σ s = some (.bool t, s1)) (ht : t = true) (h2 : execs call fuel x σ s1 = some (.ret d, s2)) : execs call fuel (.cons (.if_ c x y) r) σ s = some (.ret d, s2) := exs_ret (q_yes h1 ht h2)
theorem cop_lt_int (i j : Int) : cop .lt (.int i) (.int j) = some (decide (i < j)) := rfl
theorem cop_le_int (i j : Int) : cop .le (.int i) (.int j) = some (decide (i ≤ j)) := rfl
theorem cop_gt_int (i j : Int) : cop .gt (.int i) (.int j) = some (decide (j < i)) := rfl
theorem cop_ge_int (i j : Int) : cop .ge (.int i) (.int j) = some (decide (j ≤ i)) := rfl
theorem cop_eq_ways0 (a : List (List Int)) : cop .eq (waysD a) (.list []) = some (decide (a = [])) := cop_eq_ways a []
theorem cop_ne_ways0 (a : List (List Int)) : cop .ne (waysD a) (.list []) = some (!decide (a = [])) := cop_ne_ways a []
theorem shp_ints (l : List Int) : shp (.list (l.map .int)) = true := (pl_list (k := 0) fun d hd => by
    obtain ⟨i, _, rfl⟩ := List.mem_map.mp hd
    exact pl_int i).shp (by omega)
theorem cop_eq_ints (a b : List Int) : cop .eq (.list (a.map .int)) (.list (b.map .int)) = some (decide (a = b)) := by
  show (if shp _ && shp _ then some (PyData.eqvAll (a.map .int) (b.map .int)) else none) = _
  rw [eqvAll_ints, shp_ints, shp_ints]
  rfl
theorem cop_ne_ints (a b : List Int) : cop .ne (.list (a.map .int)) (.list (b.map .int)) = some (!decide (a = b)) := by
  show (if shp _ && shp _ then some (!PyData.eqvAll (a.map .int) (b.map .int)) else none) = _
  rw [eqvAll_ints, shp_ints, shp_ints]
  rfl
theorem cop_eq_ints0 (a : List Int) : cop .eq (.list (a.map .int)) (.list []) = some (decide (a = [])) := cop_eq_ints a []
theorem cop_ne_ints0 (a : List Int) : cop .ne (.list (a.map .int)) (.list []) = some (!decide (a = [])) := cop_ne_ints a []
theorem r_bf0 {f : Bf} {es : Es} {ds : List D} {d : D} (h : evs call (f != .repr) es σ s = some (ds, s1)) (h2 : bf f ds = some d) : ev call b (.bf f es) σ s = some (d, s1) := by
  unfold ev
  rw [bnd_eq h, lft_eq h2]
  rfl
theorem q_append {x : Nat} {e : E} {d : D} {xs : List D} (h1 : ev call false e σ s = some (d, s1)) (h2 : ownAt σ x = some (.list xs)) (h3 : xs.length < lim) : exec call fuel (.mut .append x e) σ s = some (.next (σ.set x (.own (.list (xs ++ [d])))), s1) := by
  unfold exec
  rw [bnd_eq h1, h2]
  show bnd (lft (muD .append (.list xs) d)) _ s1 = _
  show bnd (lft (if xs.length < lim then some (PyData.list (xs ++ [d])) else none)) _ s1 = _
  rw [if_pos h3]
  rfl
/-- for_exec, while_exec by keepF -/
theorem for_execF {t : T} {it : I} {keep : List Nat} {body : Ss} {ds : List D} (P : Nat → Ev → Src → Prop) (hl : wantsLock it σ = false) (hi : evI call false it σ s = some (ds, s1))
    (p0 : P 0 (keepF keep 0 σ) s1)
    (step : ∀ j d σ s, ds[j]? = some d → P j σ s → ∃ σ1 σ2 s', bindT t d σ = some σ1 ∧ execs call fuel body σ1 s = some (.next σ2, s') ∧ P (j + 1) (keepF keep 0 σ2) s') :
    ∃ σ' s', exec call fuel (.for_ t it keep body) σ s = some (.next σ', s') ∧ P ds.length σ' s' := by
  refine for_exec P hl hi (by rw [keepF_eq]; exact p0) fun j d σ s hj hp => ?_
  obtain ⟨σ1, σ2, s', e1, e2, p⟩ := step j d σ s hj hp
  exact ⟨σ1, σ2, s', e1, e2, by rw [keepF_eq]; exact p⟩
theorem while_execF {c : E} {keep : List Nat} {body : Ss} (P : Nat → Ev → Src → Prop) (Q : Ev → Src → Prop) (m : Nat) (hf : m < fuel)
    (p0 : P m (keepF keep 0 σ) s)
    (step : ∀ m σ s, P m σ s → (∃ s', ev call false c σ s = some (.bool false, s') ∧ Q σ s') ∨ (∃ m' σ2 s1 s2, ev call false c σ s = some (.bool true, s1) ∧ execs call fuel body σ s1 = some (.next σ2, s2) ∧ m' < m ∧ P m' (keepF keep 0 σ2) s2)) :
    ∃ σ' s', exec call fuel (.while_ c keep body) σ s = some (.next σ', s') ∧ Q σ' s' := by
  refine while_exec P Q m hf (by rw [keepF_eq]; exact p0) fun m σ s hp => ?_
  rcases step m σ s hp with h | ⟨m', σ2, s1, s2, h1, h2, h3, h4⟩
  · exact .inl h
  · exact .inr ⟨m', σ2, s1, s2, h1, h2, h3, by rw [keepF_eq]; exact h4⟩
/-- a comprehension that draws, by an invariant -/
theorem r_comp_inv {elt : E} {t : T} {it : I} {own : List Nat} {ds : List D} (P : Nat → List D → Src → Prop) (h1 : evI call true it σ s = some (ds, s1)) (p0 : P 0 [] s1)
    (step : ∀ j d acc s, ds[j]? = some d → P j acc s → acc.length < lim ∧ ∃ σ' x s', bindT t d (wipeE σ own) = some σ' ∧ ev call false elt σ' s = some (x, s') ∧ P (j + 1) (acc ++ [x]) s') :
    ∃ xs s', ev call b (.comp elt t it (.bool true) own) σ s = some (.list xs, s') ∧ P ds.length xs s' := by
  obtain ⟨xs, s', e, p⟩ := comp_inv (f := fun d' => bnd (lft (bindT t d' (wipeE σ own))) fun σ' =>
      bnd (ev call false (.bool true) σ') fun cd => match cd with
        | .bool ok => if ok then bnd (ev call false elt σ') fun x => ret (some x) else ret Option.none
        | _ => stuck) P ds 0 [] s1 (fun j d acc s hj hp => by
      rw [Nat.zero_add] at hp ⊢
      obtain ⟨hl, σ', x, s', e1, e2, p⟩ := step j d acc s hj hp
      refine ⟨hl, x, s', ?_, p⟩
      show bnd _ _ s = _
      rw [lft_eq e1, bnd_ret]
      show bnd (ev call false elt σ') _ s = _
      rw [bnd_eq e2]
      rfl) p0
  refine ⟨xs, s', ?_, by rw [Nat.zero_add] at p; exact p⟩
  unfold ev
  rw [bnd_eq h1]
  exact (bnd_eq e).trans rfl
/-- a comprehension without a test -/
theorem r_comp1 {α : Type} {elt : E} {t : T} {it : I} {own : List Nat} (φ : α → D) (ψ : α → D) (xs : List α) (h1 : evI call true it σ s = some (xs.map φ, s1)) (hl : xs.length ≤ lim)
    (h : ∀ x ∈ xs, ∀ s, ∃ σ', bindT t (φ x) (wipeE σ own) = some σ' ∧ ev call false elt σ' s = some (ψ x, s)) : ev call b (.comp elt t it (.bool true) own) σ s = some (.list (xs.map ψ), s1) := by
  have := r_comp (b := b) (c := .bool true) φ (fun _ => true) ψ xs h1 hl (fun x hx s => by
    obtain ⟨σ', e1, e2⟩ := h x hx s
    exact ⟨σ', e1, rfl, fun _ => e2⟩)
  rwa [List.filter_eq_self.mpr (fun _ _ => rfl)] at this
end
end Mp

/-! R2: rules for loops, in the goal's direction; owned things. -/
namespace Mp
open PySem
def intOf : D → Int
  | .int i => i
  | _ => 0
theorem ints_perm {ys : List D} {ns : List Int} (h : ys.Perm (ns.map .int)) : ∃ ms : List Int, ys = ms.map .int ∧ ms.Perm ns := by
  refine ⟨ys.map intOf, ?_, ?_⟩
  · rw [List.map_map]
    refine ((List.map_congr_left fun y hy => ?_).trans (List.map_id ys)).symm
    obtain ⟨i, _, rfl⟩ := List.mem_map.mp (h.mem_iff.mp hy)
    rfl
  · have := h.map intOf
    rwa [List.map_map, show intOf ∘ PyData.int = id from rfl, List.map_id] at this
def upto (n : Nat) : List Int := (List.range n).map fun (k : Nat) => (k : Int)
theorem range_upto (n : Nat) : rangeD 0 (n : Int) = (upto n).map .int := by
  unfold rangeD upto
  rw [List.map_map, show ((n : Int) - 0).toNat = n by omega]
  refine List.map_congr_left fun k _ => ?_
  show PyData.int (0 + (k : Int)) = .int k
  rw [Int.zero_add]
theorem upto_nodup (n : Nat) : (upto n).Nodup := by
  unfold upto
  rw [List.nodup_iff_pairwise_ne, List.pairwise_map]
  exact (List.nodup_range (n := n)).imp fun {a b} h e => h (Int.ofNat.inj e)
theorem mem_upto {n : Nat} {x : Int} : x ∈ upto n ↔ 0 ≤ x ∧ x < n := by
  unfold upto
  rw [List.mem_map]
  constructor
  · rintro ⟨k, hk, rfl⟩
    rw [List.mem_range] at hk
    omega
  · intro h
    exact ⟨x.toNat, List.mem_range.mpr (by omega), Int.toNat_of_nonneg h.1⟩
theorem row_inj {ms : List Int} (nd : ms.Nodup) {i j : Nat} {x : Int} (h1 : ms[i]? = some x) (h2 : ms[j]? = some x) : i = j := by
  obtain ⟨a, ea⟩ := List.getElem?_eq_some_iff.mp h1
  obtain ⟨b, eb⟩ := List.getElem?_eq_some_iff.mp h2
  exact (List.getElem_inj nd).mp (ea.trans eb.symm)

section
variable {call : Call} {fuel : Nat} {b : Bool} {σ σ' : Ev} {s s1 s2 s3 : Src}

theorem r_star {e : E} {r : Es} {d : D} {xs ds : List D} (h : ev call true e σ s = some (d, s1)) (hs : seqD d = some xs) (h2 : evs call b r σ s1 = some (ds, s2)) : evs call b (.star e r) σ s = some (xs ++ ds, s2) := by
  show bnd (ev call true e σ) _ s = _
  rw [bnd_eq h]
  rw [lft_eq hs, bnd_ret]
  rw [bnd_eq h2]
  rfl
theorem r_enumT {e : E} {ds : List D} (h : ev call b e σ s = some (.tuple ds, s1)) : evI call b (.enum e) σ s = some (enumFrom 0 ds, s1) := by
  show bnd (ev call b e σ) _ s = _
  rw [bnd_eq h]
  rfl
theorem r_enumL {e : E} {ds : List D} (h : ev call b e σ s = some (.list ds, s1)) : evI call b (.enum e) σ s = some (enumFrom 0 ds, s1) := by
  show bnd (ev call b e σ) _ s = _
  rw [bnd_eq h]
  rfl
theorem r_overK {i : Nat} {kvs : List (D × D)} (h : rdSlot b σ i = some (.dict kvs)) : evI call b (.over (.var i)) σ s = some (kvs.map (·.1), s) := by
  show bnd (ev call b (.var i) σ) _ s = _
  rw [bnd_eq (r_var h)]
  rfl
/-- a loop whose state is told turn by turn, without draws -/
theorem exs_forS {α : Type} {t : T} {it : I} {keep : List Nat} {body r : Ss} {fl : Fl} (φ : α → D) (xs : List α) (env : Nat → Ev) (hl : wantsLock it σ = false) (hi : evI call false it σ s = some (xs.map φ, s1)) (p0 : keepF keep 0 σ = env 0)
    (step : ∀ (j : Nat) x, xs[j]? = some x → ∃ σ1 σ2, bindT t (φ x) (env j) = some σ1 ∧ execs call fuel body σ1 s1 = some (.next σ2, s1) ∧ keepF keep 0 σ2 = env (j + 1))
    (rest : execs call fuel r (env xs.length) s1 = some (fl, s2)) : execs call fuel (.cons (.for_ t it keep body) r) σ s = some (fl, s2) := by
  obtain ⟨σ', s', e, rfl, rfl⟩ := for_execF (call := call) (fuel := fuel) (t := t) (it := it) (keep := keep) (body := body) (σ := σ) (s := s) (s1 := s1) (ds := xs.map φ) (fun i σ' s' => s' = s1 ∧ σ' = env i) hl hi ⟨rfl, p0⟩ (by
    rintro j d σ' s' hj ⟨rfl, rfl⟩
    rw [List.getElem?_map] at hj
    obtain ⟨x, hx, rfl⟩ := Option.map_eq_some_iff.mp hj
    obtain ⟨σ1, σ2, h1, h2, h3⟩ := step j x hx
    exact ⟨σ1, σ2, s', h1, h2, rfl, h3⟩)
  rw [List.length_map] at e
  exact exs_step e rest
/-- a loop by an invariant, without draws -/
theorem exs_forI {α : Type} {t : T} {it : I} {keep : List Nat} {body : Ss} (φ : α → D) (xs : List α) (P : Nat → Ev → Prop) (hl : wantsLock it σ = false) (hi : evI call false it σ s = some (xs.map φ, s1)) (p0 : P 0 (keepF keep 0 σ))
    (step : ∀ (j : Nat) x σ', xs[j]? = some x → P j σ' → ∃ σ1 σ2, bindT t (φ x) σ' = some σ1 ∧ execs call fuel body σ1 s1 = some (.next σ2, s1) ∧ P (j + 1) (keepF keep 0 σ2)) :
    ∃ σ', exec call fuel (.for_ t it keep body) σ s = some (.next σ', s1) ∧ P xs.length σ' := by
  obtain ⟨σ', s', e, rfl, p⟩ := for_execF (call := call) (fuel := fuel) (t := t) (it := it) (keep := keep) (body := body) (σ := σ) (s := s) (s1 := s1) (ds := xs.map φ) (fun i σ' s' => s' = s1 ∧ P i σ') hl hi ⟨rfl, p0⟩ (by
    rintro j d σ' s' hj ⟨rfl, hp⟩
    rw [List.getElem?_map] at hj
    obtain ⟨x, hx, rfl⟩ := Option.map_eq_some_iff.mp hj
    obtain ⟨σ1, σ2, h1, h2, h3⟩ := step j x σ' hx hp
    exact ⟨σ1, σ2, s', h1, h2, rfl, h3⟩)
  rw [List.length_map] at p
  exact ⟨σ', e, p⟩
theorem q_setD {x : Nat} {k v : E} {kd vd : D} {kvs : List (D × D)} (h1 : ev call false v σ s = some (vd, s1)) (h2 : ev call false k σ s1 = some (kd, s2)) (h3 : ownAt σ x = some (.dict kvs)) (h4 : keyFits kvs kd = true) (h5 : kvs.length < lim) :
    exec call fuel (.setItem x k v) σ s = some (.next (σ.set x (.own (.dict (dput kvs kd vd)))), s2) := by
  unfold exec
  rw [bnd_eq h1]
  rw [bnd_eq h2, h3]
  show (if keyFits kvs kd && decide (kvs.length < lim) then ret (Fl.next (σ.set x (.own (.dict (dput kvs kd vd))))) else stuck) s2 = _
  rw [if_pos (by rw [h4, decide_eq_true h5]; rfl)]
  rfl
theorem q_setL {x j : Nat} {k v : E} {i : Int} {vd : D} {xs : List D} (h1 : ev call false v σ s = some (vd, s1)) (h2 : ev call false k σ s1 = some (.int i, s2)) (h3 : ownAt σ x = some (.list xs)) (h4 : ixNat xs.length i = some j) :
    exec call fuel (.setItem x k v) σ s = some (.next (σ.set x (.own (.list (xs.set j vd)))), s2) := by
  unfold exec
  rw [bnd_eq h1]
  rw [bnd_eq h2, h3]
  show bnd (lft (ixNat xs.length i)) _ s2 = _
  rw [lft_eq h4]
  rfl
theorem ix_nat {n j : Nat} (h : j < n) : ixNat n (j : Int) = some j := by
  unfold ixNat
  rw [if_pos (by omega), if_pos (by omega), Int.toNat_natCast]
theorem item_list {xs : List D} {j : Nat} {d : D} (h : xs[j]? = some d) : itemAt (.list xs) (.int (j : Int)) = some d := by
  show (ixNat xs.length (j : Int)).bind _ = _
  rw [ix_nat (List.getElem?_eq_some_iff.mp h).1]
  exact h
theorem item_tuple {xs : List D} {j : Nat} {d : D} (h : xs[j]? = some d) : itemAt (.tuple xs) (.int (j : Int)) = some d := by
  show (ixNat xs.length (j : Int)).bind _ = _
  rw [ix_nat (List.getElem?_eq_some_iff.mp h).1]
  exact h
theorem q_freeze {i : Nat} {r : Ss} {d : D} {fl : Fl} (h1 : σ[i]? = some (.own d)) (h2 : execs call fuel r (σ.set i (.frz d)) s = some (fl, s1)) : execs call fuel (.cons (.freeze i) r) σ s = some (fl, s1) := by
  refine (exs_cons (σ' := σ.set i (.frz d)) (s' := s) ?_).trans h2
  show ret (Fl.next _) s = _
  rw [h1]
  rfl
theorem q_popAt {x i j : Nat} {e : E} {k : Int} {xs : List D} {d : D} (h1 : ev call false e σ s = some (.int k, s1)) (hr : rangeOk k = true) (h2 : ownAt σ x = some (.list xs)) (h3 : ixNat xs.length k = some j) (h4 : xs[j]? = some d) :
    exec call fuel (.pop (some i) x (some e)) σ s = some (.next ((σ.set x (.own (.list (xs.eraseIdx j)))).set i (.frz d)), s1) := by
  unfold exec
  have e1 : bnd (ev call false e σ) (fun d => match d with | .int i => ret (some i) | _ => stuck) s = some (some k, s1) := (bnd_eq h1).trans rfl
  refine (bnd_eq e1).trans ?_
  rw [h2]
  show bnd (lft (popD xs (some k))) _ s1 = _
  have e2 : popD xs (some k) = some (d, xs.eraseIdx j) := by
    show (if rangeOk k then (ixNat xs.length k).bind fun j => (xs[j]?).map fun y => (y, xs.eraseIdx j) else none) = _
    rw [if_pos hr, h3, Option.bind_some, h4]
    rfl
  rw [lft_eq e2]
  rfl
theorem bop_add_ways (a b : List (List Int)) (h : a.length + b.length ≤ lim) : bop .add (waysD a) (waysD b) = some (waysD (a ++ b)) := by
  show (if _ then _ else _) = _
  rw [if_pos (by rw [List.length_map, List.length_map]; exact h)]
  unfold waysD
  rw [List.map_append]
theorem bop_add_row (w : List Int) (x : Int) (h : w.length + 1 ≤ lim) : bop .add (rowD w) (.tuple [.int x]) = some (rowD (w ++ [x])) := by
  show (if _ then _ else _) = _
  rw [if_pos (by rw [List.length_map]; exact h)]
  exact congrArg some (tup_row w x)
theorem bf_sorted_ways (a : List (List Int)) (h : a.length ≤ lim) : bf .sorted [waysD a] = some (waysD (sortR a)) := by
  show (walkD (waysD a)).bind (fun xs => (sortD xs).map PyData.list) = _
  show (sortD (a.map rowD)).map PyData.list = _
  rw [sortD_rows a h]
  rfl
theorem bf_sorted_ints (a : List Int) (h : a.length ≤ lim) : bf .sorted [.list (a.map .int)] = some (.list ((sortI a).map .int)) := by
  show (sortD (a.map PyData.int)).map PyData.list = _
  rw [sortD_ints a h]
  rfl
theorem bf_tuple_ints (a : List Int) : bf .tuple [.list (a.map .int)] = some (rowD a) := rfl
theorem bf_tuple_row (a : List Int) : bf .tuple [rowD a] = some (rowD a) := rfl
theorem bf_len_row (a : List Int) : bf .len [rowD a] = some (.int a.length) := by
  show some (PyData.int ((a.map PyData.int).length : Nat)) = _
  rw [List.length_map]
end
end Mp

set_option maxHeartbeats 4000000
/-! M1: members and givings, in plain words: Hall's two directions. -/
namespace Mp

def meetB (lots : List (List Int)) (x : Int) (k : Nat) : Bool := match lots[k]? with
  | some l => decide (x ∈ l)
  | none => false
abbrev meet (lots : List (List Int)) (x : Int) (k : Nat) : Prop := meetB lots x k = true
theorem meet_iff {lots : List (List Int)} {x : Int} {k : Nat} : meet lots x k ↔ ∃ l, lots[k]? = some l ∧ x ∈ l := by
  unfold meet meetB
  cases e : lots[k]? with
  | none => simp
  | some l => simp
theorem meet_lt {lots : List (List Int)} {x : Int} {k : Nat} (h : meet lots x k) : k < lots.length := by
  obtain ⟨l, h1, _⟩ := meet_iff.mp h
  exact (List.getElem?_eq_some_iff.mp h1).1
/-- each thing of L by a member of its own -/
def Given (lots : List (List Int)) (L : List Int) : Prop := ∃ f : Int → Nat, (∀ x ∈ L, meet lots x (f x)) ∧ ∀ x ∈ L, ∀ y ∈ L, f x = f y → x = y
/-- the members that meet X -/
def nb (lots : List (List Int)) (X : List Int) : List Nat := (List.range lots.length).filter fun k => X.any fun x => meetB lots x k
theorem mem_nb {lots : List (List Int)} {X : List Int} {k : Nat} : k ∈ nb lots X ↔ ∃ x ∈ X, meet lots x k := by
  unfold nb
  rw [List.mem_filter, List.mem_range, List.any_eq_true]
  constructor
  · rintro ⟨_, x, h1, h2⟩
    exact ⟨x, h1, h2⟩
  · rintro ⟨x, h1, h2⟩
    exact ⟨meet_lt h2, x, h1, h2⟩
theorem nb_nodup (lots : List (List Int)) (X : List Int) : (nb lots X).Nodup := List.nodup_range.filter _
theorem map_nodup {α β : Type} (f : α → β) : ∀ {l : List α}, l.Nodup → (∀ x ∈ l, ∀ y ∈ l, f x = f y → x = y) → (l.map f).Nodup := by
  intro l nd inj
  rw [List.nodup_iff_pairwise_ne, List.pairwise_map]
  rw [List.nodup_iff_pairwise_ne] at nd
  exact nd.imp_of_mem fun {a b} ha hb hne e => hne (inj a ha b hb e)
theorem Given.sub {lots : List (List Int)} {L X : List Int} (h : Given lots L) (hX : ∀ x ∈ X, x ∈ L) : Given lots X := by
  obtain ⟨f, h1, h2⟩ := h
  exact ⟨f, fun x hx => h1 x (hX x hx), fun x hx y hy => h2 x (hX x hx) y (hX y hy)⟩
theorem hall_easy {lots : List (List Int)} {X : List Int} (h : Given lots X) (nd : X.Nodup) : X.length ≤ (nb lots X).length := by
  obtain ⟨f, h1, h2⟩ := h
  have := (map_nodup f nd h2).length_le_of_subset (l₂ := nb lots X) fun k hk => by
    obtain ⟨x, hx, rfl⟩ := List.mem_map.mp hk
    exact mem_nb.mpr ⟨x, hx, h1 x hx⟩
  rwa [List.length_map] at this

/-! ### givings -/
abbrev Gv := List (Option Int)
structure Giv (lots : List (List Int)) (g : Gv) : Prop where
  len : g.length = lots.length
  ok : ∀ (k : Nat) x, g[k]? = some (some x) → meet lots x k
  inj : ∀ (k j : Nat) x, g[k]? = some (some x) → g[j]? = some (some x) → k = j
def has (g : Gv) (x : Int) : Prop := ∃ k : Nat, g[k]? = some (some x)
theorem has_iff {g : Gv} {x : Int} : has g x ↔ some x ∈ g := by
  unfold has
  rw [List.mem_iff_getElem?]
open Classical in
theorem Giv.given {lots : List (List Int)} {g : Gv} (h : Giv lots g) {L : List Int} (hL : ∀ x ∈ L, has g x) : Given lots L := by
  refine ⟨fun x => if hx : has g x then Classical.choose hx else 0, fun x hx => ?_, fun x hx y hy e => ?_⟩
  · have hh := hL x hx
    show meet lots x (if hx : has g x then Classical.choose hx else 0)
    rw [dif_pos hh]
    exact h.ok _ _ (Classical.choose_spec hh)
  · have hh := hL x hx
    have hh2 := hL y hy
    simp only [dif_pos hh, dif_pos hh2] at e
    have e1 := Classical.choose_spec hh
    have e2 := Classical.choose_spec hh2
    rw [e] at e1
    rw [e1] at e2
    exact Option.some.inj (Option.some.inj e2)
theorem giv_none (lots : List (List Int)) : Giv lots (List.replicate lots.length none) := by
  refine ⟨by simp, fun k x h => ?_, fun k j x h => ?_⟩ <;>
  · rw [List.getElem?_replicate] at h
    split at h <;> cases h

/-! ### the search for a way from t -/
structure Asked (lots : List (List Int)) (g : Gv) (t : Int) (asked : List (Nat × Int)) (came : List (Int × Option Nat)) : Prop where
  ck : (came.map (·.1)).Nodup
  ak : (asked.map (·.1)).Nodup
  t0 : (t, none) ∈ came
  tn : ∀ x, (x, none) ∈ came → x = t
  cm : ∀ x (k : Nat), (x, some k) ∈ came → g[k]? = some (some x)
  am : ∀ (i : Nat) k x, asked[i]? = some (k, x) → meet lots x k ∧ x ∈ came.map (·.1) ∧ ∀ k', (x, some k') ∈ came → k' ∈ (asked.take i).map (·.1)
  gl : ∀ k ∈ asked.map (·.1), ∀ y, g[k]? = some (some y) → y ∈ came.map (·.1)
/-- all that meets a thing that came is asked -/
def Closed (lots : List (List Int)) (asked : List (Nat × Int)) (came : List (Int × Option Nat)) : Prop := ∀ x ∈ came.map (·.1), ∀ k, meet lots x k → k ∈ asked.map (·.1)
theorem mem_keys {α β : Type} {l : List (α × β)} {a : α} : a ∈ l.map (·.1) ↔ ∃ b, (a, b) ∈ l := by
  rw [List.mem_map]
  exact ⟨fun ⟨p, h1, h2⟩ => ⟨p.2, by rw [← h2]; exact h1⟩, fun ⟨b, h⟩ => ⟨(a, b), h, rfl⟩⟩
theorem Asked.came_has {lots : List (List Int)} {g : Gv} {t : Int} {asked : List (Nat × Int)} {came : List (Int × Option Nat)} (h : Asked lots g t asked came) : ∀ x ∈ came.map (·.1), x = t ∨ has g x := fun x hx => by
  obtain ⟨o, ho⟩ := mem_keys.mp hx
  cases o with
  | none => exact .inl (h.tn x ho)
  | some k => exact .inr ⟨k, h.cm x k ho⟩
/-- no free member: too few members -/
theorem Asked.few {lots : List (List Int)} {g : Gv} {t : Int} {asked : List (Nat × Int)} {came : List (Int × Option Nat)} (h : Asked lots g t asked came) (hg : Giv lots g) (ht : ¬ has g t) (cl : Closed lots asked came) (nofree : ∀ k ∈ asked.map (·.1), ∃ y, g[k]? = some (some y)) :
    ∃ X : List Int, X.Nodup ∧ t ∈ X ∧ (∀ x ∈ X, x = t ∨ has g x) ∧ (nb lots X).length < X.length ∧ ∀ k ∈ nb lots X, ∃ y ∈ X, g[k]? = some (some y) := by
  refine ⟨came.map (·.1), h.ck, mem_keys.mpr ⟨_, h.t0⟩, h.came_has, ?_, fun k hk => ?_⟩
  · have h1 : (nb lots (came.map (·.1))).length ≤ asked.length := by
      have := (nb_nodup lots (came.map (·.1))).length_le_of_subset (l₂ := asked.map (·.1)) fun k hk => by
        obtain ⟨x, hx, hm⟩ := mem_nb.mp hk
        exact cl x hx k hm
      rwa [List.length_map] at this
    -- what the asked ones hold
    have h2 : ∀ l : List Nat, l.Nodup → (∀ k ∈ l, k ∈ asked.map (·.1)) → ∃ ys : List Int, ys.length = l.length ∧ ys.Nodup ∧ ∀ y ∈ ys, y ∈ came.map (·.1) ∧ ∃ k ∈ l, g[k]? = some (some y) := by
      intro l
      induction l with
      | nil => intro _ _; exact ⟨[], rfl, List.nodup_nil, fun y hy => absurd hy (by simp)⟩
      | cons k l ih =>
        intro nd hl
        rw [List.nodup_cons] at nd
        obtain ⟨ys, e1, e2, e3⟩ := ih nd.2 fun j hj => hl j (.tail _ hj)
        obtain ⟨y, hy⟩ := nofree k (hl k (.head _))
        refine ⟨y :: ys, by rw [List.length_cons, List.length_cons, e1], List.nodup_cons.mpr ⟨fun hm => ?_, e2⟩, fun z hz => ?_⟩
        · obtain ⟨_, j, hj, hgj⟩ := e3 y hm
          have := hg.inj k j y hy hgj
          subst this
          exact nd.1 hj
        · rcases List.mem_cons.mp hz with rfl | hz
          · exact ⟨h.gl k (hl k (.head _)) z hy, k, .head _, hy⟩
          · obtain ⟨q1, j, hj, q2⟩ := e3 z hz
            exact ⟨q1, j, .tail _ hj, q2⟩
    obtain ⟨ys, e1, e2, e3⟩ := h2 _ h.ak fun k hk => hk
    rw [List.length_map] at e1
    have h3 : (t :: ys).length ≤ (came.map (·.1)).length := (List.nodup_cons.mpr ⟨fun hm => by
      obtain ⟨_, k, _, q⟩ := e3 t hm
      exact ht ⟨k, q⟩, e2⟩ : (t :: ys).Nodup).length_le_of_subset fun z hz => by
      rcases List.mem_cons.mp hz with rfl | hz
      · exact mem_keys.mpr ⟨_, h.t0⟩
      · exact (e3 z hz).1
    rw [List.length_cons] at h3
    omega
  · obtain ⟨x, hx, hm⟩ := mem_nb.mp hk
    have ha := cl x hx k hm
    obtain ⟨y, hy⟩ := nofree k ha
    exact ⟨y, h.gl k ha y hy, hy⟩

/-! ### a way back -/
structure Back (lots : List (List Int)) (g : Gv) (asked : List (Nat × Int)) (i : Nat) (k : Nat) (x : Int) (g' : Gv) : Prop where
  at_ : asked[i]? = some (k, x)
  len : g'.length = lots.length
  ok : ∀ (j : Nat) y, j ≠ k → g'[j]? = some (some y) → meet lots y j
  inj : ∀ (j j' : Nat) y, j ≠ k → j' ≠ k → g'[j]? = some (some y) → g'[j']? = some (some y) → j = j'
  all : ∀ y, (∃ j : Nat, j ≠ k ∧ g'[j]? = some (some y)) ↔ has g y
  old : ∀ j ∈ (asked.take (i + 1)).map (·.1), g'[j]? = g[j]?
theorem back_start {lots : List (List Int)} {g : Gv} {t : Int} {asked : List (Nat × Int)} {came : List (Int × Option Nat)} (h : Asked lots g t asked came) (hg : Giv lots g) {i k : Nat} {x : Int} (hi : asked[i]? = some (k, x)) (hk : g[k]? = some none) : Back lots g asked i k x g :=
  ⟨hi, hg.len, fun j y _ q => hg.ok j y q, fun j j' y _ _ q q' => hg.inj j j' y q q', fun y => ⟨fun ⟨j, _, q⟩ => ⟨j, q⟩, fun ⟨j, q⟩ => ⟨j, fun e => (by rw [e, hk] at q; cases q), q⟩⟩, fun _ _ => rfl⟩
theorem keys_take_ne {asked : List (Nat × Int)} (nd : (asked.map (·.1)).Nodup) {i k : Nat} {x : Int} (hi : asked[i]? = some (k, x)) {j : Nat} (hj : j ∈ (asked.take i).map (·.1)) : j ≠ k := by
  rintro rfl
  obtain ⟨b, hb⟩ := mem_keys.mp hj
  obtain ⟨i', h1, h2⟩ := List.getElem_of_mem hb
  rw [List.length_take] at h1
  rw [List.getElem_take] at h2
  obtain ⟨hl, e⟩ := List.getElem?_eq_some_iff.mp hi
  have hl' : i' < asked.length := by omega
  have := (List.getElem_inj (h₀ := by rw [List.length_map]; exact hl') (h₁ := by rw [List.length_map]; exact hl) nd).mp (by rw [List.getElem_map, List.getElem_map, h2, e])
  omega
theorem back_end {lots : List (List Int)} {g g' : Gv} {t : Int} {asked : List (Nat × Int)} {came : List (Int × Option Nat)} (h : Asked lots g t asked came) (ht : ¬ has g t) {i k : Nat} (b : Back lots g asked i k t g') :
    Giv lots (g'.set k (some t)) ∧ ∀ y, has (g'.set k (some t)) y ↔ has g y ∨ y = t := by
  have hm := h.am i k t b.at_
  have hk : k < g'.length := by rw [b.len]; exact meet_lt hm.1
  have get : ∀ j : Nat, (g'.set k (some t))[j]? = if k = j then some (some t) else g'[j]? := fun j => by
    by_cases e : k = j
    · subst e
      rw [List.getElem?_set_self hk, if_pos rfl]
    · rw [List.getElem?_set_ne e, if_neg e]
  have no : ∀ j : Nat, j ≠ k → g'[j]? ≠ some (some t) := fun j hj q => ht ((b.all t).mp ⟨j, hj, q⟩)
  refine ⟨⟨by rw [List.length_set]; exact b.len, fun j y q => ?_, fun j j' y q q' => ?_⟩, fun y => ⟨fun ⟨j, q⟩ => ?_, fun q => ?_⟩⟩
  · rw [get] at q
    split at q
    · rename_i e
      subst e
      cases q
      exact hm.1
    · rename_i e
      exact b.ok j y (Ne.symm e) q
  · rw [get] at q q'
    split at q
    · rename_i e
      cases q
      split at q'
      · rename_i e'
        exact e.symm.trans e'
      · rename_i e'
        exact absurd q' (no j' (Ne.symm e'))
    · rename_i e
      split at q'
      · cases q'
        exact absurd q (no j (Ne.symm e))
      · rename_i e'
        exact b.inj j j' y (Ne.symm e) (Ne.symm e') q q'
  · rw [get] at q
    split at q
    · cases q
      exact .inr rfl
    · rename_i e
      exact .inl ((b.all y).mp ⟨j, Ne.symm e, q⟩)
  · rcases q with q | rfl
    · obtain ⟨j, hj, q⟩ := (b.all y).mpr q
      exact ⟨j, by rw [get, if_neg (Ne.symm hj)]; exact q⟩
    · exact ⟨k, by rw [get, if_pos rfl]⟩
theorem back_step {lots : List (List Int)} {g g' : Gv} {t : Int} {asked : List (Nat × Int)} {came : List (Int × Option Nat)} (h : Asked lots g t asked came) {i k k' : Nat} {x : Int} (b : Back lots g asked i k x g') (hc : (x, some k') ∈ came) :
    ∃ i' x', i' < i ∧ asked[i']? = some (k', x') ∧ Back lots g asked i' k' x' (g'.set k (some x)) := by
  have hm := h.am i k x b.at_
  have hk : k < g'.length := by rw [b.len]; exact meet_lt hm.1
  have hk' := hm.2.2 k' hc
  have ne := keys_take_ne h.ak b.at_ hk'
  obtain ⟨x', hx'⟩ := mem_keys.mp hk'
  obtain ⟨i', l1, l2⟩ := List.getElem_of_mem hx'
  rw [List.length_take] at l1
  rw [List.getElem_take] at l2
  have hi' : asked[i']? = some (k', x') := List.getElem?_eq_some_iff.mpr ⟨by omega, l2⟩
  have get : ∀ j : Nat, (g'.set k (some x))[j]? = if k = j then some (some x) else g'[j]? := fun j => by
    by_cases e : k = j
    · subst e
      rw [List.getElem?_set_self hk, if_pos rfl]
    · rw [List.getElem?_set_ne e, if_neg e]
  have sub : ∀ {a c : Nat} {j : Nat}, a ≤ c → j ∈ (asked.take a).map (·.1) → j ∈ (asked.take c).map (·.1) := fun {a c j} hac hj => by
    obtain ⟨z, hz⟩ := mem_keys.mp hj
    exact mem_keys.mpr ⟨z, List.mem_of_mem_take (by rw [List.take_take, Nat.min_eq_left hac]; exact hz) (i := a)⟩
  have gk : g'[k']? = some (some x) := by
    rw [b.old k' (sub (Nat.le_succ i) hk')]
    exact h.cm x k' hc
  refine ⟨i', x', by omega, hi', hi', by rw [List.length_set]; exact b.len, fun j y hj q => ?_, fun j j' y hj hj' q q' => ?_, fun y => ⟨fun ⟨j, hj, q⟩ => ?_, fun q => ?_⟩, fun j hj => ?_⟩
  · rw [get] at q
    split at q
    · rename_i e
      subst e
      cases q
      exact hm.1
    · rename_i e
      exact b.ok j y (Ne.symm e) q
  · rw [get] at q q'
    split at q
    · rename_i e
      cases q
      split at q'
      · rename_i e'
        exact e.symm.trans e'
      · rename_i e'
        exact absurd (b.inj j' k' x (Ne.symm e') ne q' gk) hj'
    · rename_i e
      split at q'
      · cases q'
        exact absurd (b.inj j k' x (Ne.symm e) ne q gk) hj
      · rename_i e'
        exact b.inj j j' y (Ne.symm e) (Ne.symm e') q q'
  · rw [get] at q
    split at q
    · cases q
      exact (b.all x).mp ⟨k', ne, gk⟩
    · rename_i e
      exact (b.all y).mp ⟨j, Ne.symm e, q⟩
  · obtain ⟨j, hj, q⟩ := (b.all y).mpr q
    by_cases e : j = k'
    · subst e
      rw [gk] at q
      cases q
      exact ⟨k, Ne.symm hj, by rw [get, if_pos rfl]⟩
    · exact ⟨j, e, by rw [get, if_neg (Ne.symm hj)]; exact q⟩
  · have h1 := sub (show i' + 1 ≤ i by omega) hj
    rw [get, if_neg (Ne.symm (keys_take_ne h.ak b.at_ h1))]
    exact b.old j (sub (Nat.le_succ i) h1)
end Mp

set_option maxHeartbeats 4000000
/-! M2: the search, step by step. -/
namespace Mp

structure St3 where
  line : List Int
  asked : List (Nat × Int)
  came : List (Int × Option Nat)
abbrev akeys (t : St3) : List Nat := t.asked.map (·.1)
abbrev ckeys (t : St3) : List Int := t.came.map (·.1)
/-- a member k is asked for here -/
def askStep (g : Gv) (here : Int) (t : St3) (k : Nat) : St3 :=
  if k ∈ akeys t then t else
    match g[k]? with
    | some (some y) => if y ∈ ckeys t then { t with asked := t.asked ++ [(k, here)] } else ⟨t.line ++ [y], t.asked ++ [(k, here)], t.came ++ [(y, some k)]⟩
    | _ => { t with asked := t.asked ++ [(k, here)] }
/-- what holds while here's members are asked; done: those asked already -/
structure Mid (lots : List (List Int)) (g : Gv) (t0 here : Int) (done : List Nat) (t : St3) : Prop where
  as : Asked lots g t0 t.asked t.came
  sub : ∀ x ∈ t.line, x ∈ ckeys t
  cs : ∀ x k, (x, some k) ∈ t.came → k ∈ akeys t
  hc : here ∈ ckeys t
  hl : here ∉ t.line
  nd : t.line.Nodup
  old : ∀ x ∈ ckeys t, x ∉ t.line → x ≠ here → ∀ k, meet lots x k → k ∈ akeys t
  now : ∀ k ∈ done, k ∈ akeys t
theorem snoc_keys {α β : Type} (l : List (α × β)) (a : α) (b : β) : (l ++ [(a, b)]).map (·.1) = l.map (·.1) ++ [a] := by rw [List.map_append]; rfl
theorem nodup_snoc {α : Type} {l : List α} {a : α} (h : l.Nodup) (n : a ∉ l) : (l ++ [a]).Nodup := by
  rw [List.nodup_append]
  exact ⟨h, by simp, fun x hx y hy e => n (by rw [← List.mem_singleton.mp hy, ← e]; exact hx)⟩
theorem asked_snoc {lots : List (List Int)} {g : Gv} {t0 here : Int} {asked : List (Nat × Int)} {came : List (Int × Option Nat)} (h : Asked lots g t0 asked came) (cs : ∀ x k, (x, some k) ∈ came → k ∈ asked.map (·.1)) {k : Nat} (hk : k ∉ asked.map (·.1)) (hm : meet lots here k) (hc : here ∈ came.map (·.1)) (hy : ∀ y, g[k]? = some (some y) → y ∈ came.map (·.1)) :
    Asked lots g t0 (asked ++ [(k, here)]) came := by
  refine ⟨h.ck, by rw [snoc_keys]; exact nodup_snoc h.ak hk, h.t0, h.tn, h.cm, fun i k' x hi => ?_, fun k' hk' y => ?_⟩
  · by_cases hlt : i < asked.length
    · rw [List.getElem?_append_left hlt] at hi
      obtain ⟨q1, q2, q3⟩ := h.am i k' x hi
      refine ⟨q1, q2, fun k'' hc' => ?_⟩
      rw [List.take_append_of_le_length (by omega)]
      exact q3 k'' hc'
    · have hi' : i = asked.length := by
        have := (List.getElem?_eq_some_iff.mp hi).1
        rw [List.length_append, List.length_singleton] at this
        omega
      subst hi'
      rw [List.getElem?_append_right (Nat.le_refl _), Nat.sub_self] at hi
      cases hi
      refine ⟨hm, hc, fun k'' hc' => ?_⟩
      rw [List.take_append_of_le_length (Nat.le_refl _), List.take_length]
      exact cs here k'' hc'
  · rw [snoc_keys, List.mem_append, List.mem_singleton] at hk'
    rcases hk' with hk' | rfl
    · exact h.gl k' hk' y
    · exact hy y
theorem came_snoc {lots : List (List Int)} {g : Gv} {t0 : Int} {asked : List (Nat × Int)} {came : List (Int × Option Nat)} (h : Asked lots g t0 asked came) {y : Int} {k : Nat} (hy : y ∉ came.map (·.1)) (hk : g[k]? = some (some y)) : Asked lots g t0 asked (came ++ [(y, some k)]) := by
  refine ⟨by rw [snoc_keys]; exact nodup_snoc h.ck hy, h.ak, List.mem_append_left _ h.t0, fun x hx => ?_, fun x k' hx => ?_, fun i k' x hi => ?_, fun k' hk' z hz => ?_⟩
  · rcases List.mem_append.mp hx with hx | hx
    · exact h.tn x hx
    · cases List.mem_singleton.mp hx
  · rcases List.mem_append.mp hx with hx | hx
    · exact h.cm x k' hx
    · cases List.mem_singleton.mp hx
      exact hk
  · obtain ⟨q1, q2, q3⟩ := h.am i k' x hi
    refine ⟨q1, by rw [snoc_keys]; exact List.mem_append_left _ q2, fun k'' hc => ?_⟩
    rcases List.mem_append.mp hc with hc | hc
    · exact q3 k'' hc
    · cases List.mem_singleton.mp hc
      exact absurd q2 hy
  · rw [snoc_keys]
    exact List.mem_append_left _ (h.gl k' hk' z hz)
theorem mid_step {lots : List (List Int)} {g : Gv} {t0 here : Int} {done : List Nat} {t : St3} (hg : Giv lots g) (h : Mid lots g t0 here done t) {k : Nat} (hm : meet lots here k) : Mid lots g t0 here (done ++ [k]) (askStep g here t k) ∧ (askStep g here t k).came.length + t.line.length = t.came.length + (askStep g here t k).line.length := by
  unfold askStep
  split
  · rename_i hk
    exact ⟨⟨h.as, h.sub, h.cs, h.hc, h.hl, h.nd, h.old, fun j hj => by
      rcases List.mem_append.mp hj with hj | hj
      · exact h.now j hj
      · rw [List.mem_singleton.mp hj]
        exact hk⟩, rfl⟩
  · rename_i hk
    have now : ∀ (a : List (Nat × Int)), a = t.asked ++ [(k, here)] → ∀ j ∈ done ++ [k], j ∈ a.map (·.1) := fun a ha j hj => by
      subst ha
      rw [snoc_keys]
      rcases List.mem_append.mp hj with hj | hj
      · exact List.mem_append_left _ (h.now j hj)
      · exact List.mem_append_right _ hj
    have up : ∀ j, j ∈ akeys t → j ∈ (t.asked ++ [(k, here)]).map (·.1) := fun j hj => by
      rw [snoc_keys]
      exact List.mem_append_left _ hj
    have plain : (∀ y, g[k]? = some (some y) → y ∈ ckeys t) → Mid lots g t0 here (done ++ [k]) { t with asked := t.asked ++ [(k, here)] } := fun hy =>
      ⟨asked_snoc h.as h.cs hk hm h.hc hy, h.sub, fun x j hx => up j (h.cs x j hx), h.hc, h.hl, h.nd, fun x hx hn hne j hj => up j (h.old x hx hn hne j hj), now _ rfl⟩
    split
    · rename_i y hy
      split
      · rename_i hyc
        exact ⟨plain fun z hz => by rw [hy] at hz; cases hz; exact hyc, rfl⟩
      · rename_i hyc
        have as1 := came_snoc h.as hyc hy
        have inC : ∀ x, x ∈ ckeys t → x ∈ (t.came ++ [(y, some k)]).map (·.1) := fun x hx => by
          rw [snoc_keys]
          exact List.mem_append_left _ hx
        have cs1 : ∀ x j, (x, some j) ∈ t.came ++ [(y, some k)] → x ≠ y → j ∈ t.asked.map (·.1) := fun x j hx hne => by
          rcases List.mem_append.mp hx with hx | hx
          · exact h.cs x j hx
          · cases List.mem_singleton.mp hx
            exact absurd rfl hne
        -- the asked one first, then what it holds
        have as2 : Asked lots g t0 (t.asked ++ [(k, here)]) (t.came ++ [(y, some k)]) := by
          refine ⟨as1.ck, by rw [snoc_keys]; exact nodup_snoc h.as.ak hk, as1.t0, as1.tn, as1.cm, fun i k' x hi => ?_, fun k' hk' z hz => ?_⟩
          · by_cases hlt : i < t.asked.length
            · rw [List.getElem?_append_left hlt] at hi
              obtain ⟨q1, q2, q3⟩ := as1.am i k' x hi
              refine ⟨q1, q2, fun k'' hc' => ?_⟩
              rw [List.take_append_of_le_length (by omega)]
              exact q3 k'' hc'
            · have hi' : i = t.asked.length := by
                have := (List.getElem?_eq_some_iff.mp hi).1
                rw [List.length_append, List.length_singleton] at this
                omega
              subst hi'
              rw [List.getElem?_append_right (Nat.le_refl _), Nat.sub_self] at hi
              cases hi
              refine ⟨hm, inC _ h.hc, fun k'' hc' => ?_⟩
              rw [List.take_append_of_le_length (Nat.le_refl _), List.take_length]
              exact cs1 here k'' hc' (fun e => hyc (e ▸ h.hc))
          · rw [snoc_keys, List.mem_append, List.mem_singleton] at hk'
            rcases hk' with hk' | rfl
            · exact as1.gl k' hk' z hz
            · rw [hy] at hz
              cases hz
              rw [snoc_keys]
              simp
        refine ⟨⟨as2, fun x hx => ?_, fun x j hx => ?_, inC _ h.hc, fun hx => ?_, nodup_snoc h.nd fun hx => hyc (h.sub y hx), fun x hx hn hne j hj => ?_, now _ rfl⟩, by simp; omega⟩
        · rcases List.mem_append.mp hx with hx | hx
          · exact inC x (h.sub x hx)
          · rw [List.mem_singleton.mp hx]
            show y ∈ (t.came ++ [(y, some k)]).map (·.1)
            rw [snoc_keys]
            simp
        · rcases List.mem_append.mp hx with hx | hx
          · exact up j (h.cs x j hx)
          · cases List.mem_singleton.mp hx
            show k ∈ (t.asked ++ [(k, here)]).map (·.1)
            rw [snoc_keys]
            simp
        · rcases List.mem_append.mp hx with hx | hx
          · exact h.hl hx
          · exact hyc (List.mem_singleton.mp hx ▸ h.hc)
        · have hx' : x ∈ (t.came ++ [(y, some k)]).map (·.1) := hx
          rw [snoc_keys, List.mem_append, List.mem_singleton] at hx'
          rcases hx' with hx' | rfl
          · exact up j (h.old x hx' (fun z => hn (List.mem_append_left _ z)) hne j hj)
          · exact absurd (List.mem_append_right _ (.head _)) hn
    · rename_i no
      exact ⟨plain fun z hz => absurd hz (no z), rfl⟩
/-- between two things -/
structure Bfs (lots : List (List Int)) (g : Gv) (t0 : Int) (t : St3) : Prop where
  as : Asked lots g t0 t.asked t.came
  sub : ∀ x ∈ t.line, x ∈ ckeys t
  cs : ∀ x k, (x, some k) ∈ t.came → k ∈ akeys t
  nd : t.line.Nodup
  old : ∀ x ∈ ckeys t, x ∉ t.line → ∀ k, meet lots x k → k ∈ akeys t
theorem bfs_start (lots : List (List Int)) (g : Gv) (t0 : Int) : Bfs lots g t0 ⟨[t0], [], [(t0, none)]⟩ :=
  ⟨⟨by simp, by simp, by simp, fun x hx => by simpa using hx, fun x k hx => by simp at hx, fun i k x hi => by simp at hi, fun k hk => by simp at hk⟩, fun x hx => hx, fun x k hx => by simp at hx, by simp, fun x hx hn => absurd (show x ∈ [t0] from hx) hn⟩
theorem bfs_pop {lots : List (List Int)} {g : Gv} {t0 x : Int} {l : List Int} {a : List (Nat × Int)} {c : List (Int × Option Nat)} (h : Bfs lots g t0 ⟨x :: l, a, c⟩) : Mid lots g t0 x [] ⟨l, a, c⟩ := by
  have nd := List.nodup_cons.mp h.nd
  exact ⟨h.as, fun y hy => h.sub y (.tail _ hy), h.cs, h.sub x (.head _), nd.1, nd.2, fun y hy hn hne k hk => h.old y hy (fun z => (List.mem_cons.mp z).elim hne hn) k hk, fun k hk => absurd hk (by simp)⟩
theorem mid_bfs {lots : List (List Int)} {g : Gv} {t0 here : Int} {t : St3} (h : Mid lots g t0 here (nb lots [here]) t) : Bfs lots g t0 t := by
  refine ⟨h.as, h.sub, h.cs, h.nd, fun x hx hn k hk => ?_⟩
  by_cases e : x = here
  · subst e
    exact h.now k (mem_nb.mpr ⟨x, .head _, hk⟩)
  · exact h.old x hx hn e k hk
theorem came_le {lots : List (List Int)} {g : Gv} {t0 : Int} {a : List (Nat × Int)} {c : List (Int × Option Nat)} (h : Asked lots g t0 a c) (hg : Giv lots g) : c.length ≤ lots.length + 1 := by
  have h1 := h.ck.length_le_of_subset (l₂ := t0 :: g.filterMap id) fun x hx => by
    rcases h.came_has x hx with rfl | hx
    · exact .head _
    · exact .tail _ (List.mem_filterMap.mpr ⟨some x, has_iff.mp hx, rfl⟩)
  have h2 : (g.filterMap id).length ≤ g.length := List.length_filterMap_le _ _
  rw [List.length_map, List.length_cons] at h1
  have := hg.len
  omega
theorem asked_le {lots : List (List Int)} {g : Gv} {t0 : Int} {a : List (Nat × Int)} {c : List (Int × Option Nat)} (h : Asked lots g t0 a c) : a.length ≤ lots.length := by
  have h1 := h.ak.length_le_of_subset (l₂ := List.range lots.length) fun k hk => by
    obtain ⟨x, hx⟩ := mem_keys.mp hk
    obtain ⟨i, hi⟩ := List.mem_iff_getElem?.mp hx
    exact List.mem_range.mpr (meet_lt (h.am i k x hi).1)
  rwa [List.length_map, List.length_range] at h1
end Mp

set_option maxHeartbeats 4000000
/-! M3: counting: no lot that can be given has more things than a giving that can't be made greater. -/
namespace Mp

theorem pigeon {α : Type} {a b : List α} (nd : a.Nodup) (sub : ∀ x ∈ a, x ∈ b) (hl : b.length ≤ a.length) : ∀ z ∈ b, z ∈ a := fun z hz => Classical.byContradiction fun no => by
  have := (List.nodup_cons.mpr ⟨no, nd⟩ : (z :: a).Nodup).length_le_of_subset (l₂ := b) fun x hx => by
    rcases List.mem_cons.mp hx with rfl | hx
    · exact hz
    · exact sub x hx
  rw [List.length_cons] at this
  omega
/-- the things that a giving gives -/
def things (g : Gv) : List Int := g.filterMap id
theorem mem_things {g : Gv} {x : Int} : x ∈ things g ↔ has g x := by
  unfold things
  rw [List.mem_filterMap, has_iff]
  constructor
  · rintro ⟨o, h1, h2⟩
    cases o with
    | none => cases h2
    | some y => cases h2; exact h1
  · intro h
    exact ⟨some x, h, rfl⟩
theorem things_nodup : ∀ {g : Gv}, (∀ (k j : Nat) x, g[k]? = some (some x) → g[j]? = some (some x) → k = j) → (things g).Nodup
  | [], _ => List.nodup_nil
  | o :: g, h => by
    have ih := things_nodup (g := g) fun k j x h1 h2 => by
      have := h (k + 1) (j + 1) x (by simpa using h1) (by simpa using h2)
      omega
    cases o with
    | none => exact ih
    | some y =>
      show (y :: things g).Nodup
      refine List.nodup_cons.mpr ⟨fun hy => ?_, ih⟩
      obtain ⟨k, hk⟩ := mem_things.mp hy
      have := h 0 (k + 1) y rfl (by simpa using hk)
      omega
/-- too few members meet X -/
def Few (lots : List (List Int)) (g : Gv) (t : Int) : Prop := ∃ X : List Int, X.Nodup ∧ t ∈ X ∧ (∀ x ∈ X, x = t ∨ has g x) ∧ (nb lots X).length < X.length
open Classical in
/-- who holds x -/
noncomputable def holder (g : Gv) (x : Int) : Nat := if h : has g x then Classical.choose h else 0
theorem holder_at {g : Gv} {x : Int} (h : has g x) : g[holder g x]? = some (some x) := by
  unfold holder
  rw [dif_pos h]
  exact Classical.choose_spec h
theorem holder_inj {g : Gv} {x y : Int} (hx : has g x) (hy : has g y) (e : holder g x = holder g y) : x = y := by
  have h1 := holder_at hx
  rw [e, holder_at hy] at h1
  exact (Option.some.inj (Option.some.inj h1)).symm
/-- the members that meet X hold things of X -/
theorem few_hold {lots : List (List Int)} {g : Gv} (hg : Giv lots g) {t : Int} {X : List Int} (nd : X.Nodup) (ht : t ∈ X) (hX : ∀ x ∈ X, x = t ∨ has g x) (hn : (nb lots X).length < X.length) : ∀ k ∈ nb lots X, ∃ y ∈ X, g[k]? = some (some y) := by
  have hh : ∀ x ∈ X.erase t, x ∈ X ∧ has g x := fun x hx => by
    have h1 := (List.Nodup.mem_erase_iff nd).mp hx
    exact ⟨h1.2, (hX x h1.2).resolve_left h1.1⟩
  have nd2 : ((X.erase t).map (holder g)).Nodup := map_nodup _ (nd.erase t) fun x hx y hy e => holder_inj (hh x hx).2 (hh y hy).2 e
  have := pigeon nd2 (b := nb lots X) (fun k hk => by
    obtain ⟨x, hx, rfl⟩ := List.mem_map.mp hk
    exact mem_nb.mpr ⟨x, (hh x hx).1, hg.ok _ _ (holder_at (hh x hx).2)⟩) (by
    rw [List.length_map, List.length_erase_of_mem ht]
    omega)
  intro k hk
  obtain ⟨x, hx, rfl⟩ := List.mem_map.mp (this k hk)
  exact ⟨x, (hh x hx).1, holder_at (hh x hx).2⟩
theorem filter_split {α : Type} (p : α → Bool) : ∀ l : List α, l.length = (l.filter p).length + (l.filter fun x => !p x).length
  | [] => rfl
  | x :: l => by
    have := filter_split p l
    rw [List.filter_cons, List.filter_cons]
    cases p x <;> simp <;> omega
open Classical in
theorem few_most {lots : List (List Int)} {g : Gv} (hg : Giv lots g) {L : List Int} (nd : L.Nodup) (hL : Given lots L) (h : ∀ x ∈ L, has g x ∨ Few lots g x) : L.length ≤ (things g).length := by
  obtain ⟨f, f1, f2⟩ := hL
  -- a thing in some X of a thing of L that isn't given
  let U : Int → Prop := fun y => ∃ t X, X.Nodup ∧ t ∈ X ∧ (∀ x ∈ X, x = t ∨ has g x) ∧ (nb lots X).length < X.length ∧ y ∈ X
  have inU : ∀ x ∈ L, ¬ has g x → U x := fun x hx hn => by
    obtain ⟨X, a, b, c, d⟩ := (h x hx).resolve_left hn
    exact ⟨x, X, a, b, c, d, b⟩
  have hold : ∀ x k, U x → meet lots x k → ∃ y, U y ∧ g[k]? = some (some y) := fun x k ⟨t, X, a, b, c, d, e⟩ hm => by
    obtain ⟨y, hy, q⟩ := few_hold hg a b c d k (mem_nb.mpr ⟨x, e, hm⟩)
    exact ⟨y, ⟨t, X, a, b, c, d, hy⟩, q⟩
  have ndT := things_nodup hg.inj
  -- those of L in U, by what their members hold
  have part1 : (L.filter fun x => decide (U x)).length ≤ ((things g).filter fun x => decide (U x)).length := by
    have key : ∀ x ∈ L.filter (fun x => decide (U x)), ∃ y, U y ∧ g[f x]? = some (some y) := fun x hx => by
      obtain ⟨h1, h2⟩ := List.mem_filter.mp hx
      exact hold x (f x) (of_decide_eq_true h2) (f1 x h1)
    have := (map_nodup (fun x => if hx : ∃ y, U y ∧ g[f x]? = some (some y) then Classical.choose hx else 0) (nd.filter _) (fun x hx y hy e => by
      have ex := key x hx
      have ey := key y hy
      simp only [dif_pos ex, dif_pos ey] at e
      have q1 := (Classical.choose_spec ex).2
      have q2 := (Classical.choose_spec ey).2
      rw [e] at q1
      exact f2 x (List.mem_filter.mp hx).1 y (List.mem_filter.mp hy).1 (hg.inj _ _ _ q1 q2))).length_le_of_subset (l₂ := (things g).filter fun x => decide (U x)) fun y hy => by
      obtain ⟨x, hx, rfl⟩ := List.mem_map.mp hy
      have ex := key x hx
      simp only [dif_pos ex]
      have q := Classical.choose_spec ex
      exact List.mem_filter.mpr ⟨mem_things.mpr ⟨_, q.2⟩, decide_eq_true q.1⟩
    rwa [List.length_map] at this
  have part2 : (L.filter fun x => !decide (U x)).length ≤ ((things g).filter fun x => !decide (U x)).length := List.Nodup.length_le_of_subset (nd.filter _) (l₂ := (things g).filter fun x => !decide (U x)) fun x hx => by
    obtain ⟨h1, h2⟩ := List.mem_filter.mp hx
    rw [Bool.not_eq_true', decide_eq_false_iff_not] at h2
    exact List.mem_filter.mpr ⟨mem_things.mpr (Classical.byContradiction fun no => h2 (inU x h1 no)), by rw [Bool.not_eq_true', decide_eq_false_iff_not]; exact h2⟩
  rw [filter_split (fun x => decide (U x)) L, filter_split (fun x => decide (U x)) (things g)]
  omega

/-! ### givings, member by member -/
theorem meet_take {lots : List (List Int)} {j k : Nat} {x : Int} : meet (lots.take j) x k ↔ k < j ∧ meet lots x k := by
  rw [meet_iff, meet_iff]
  constructor
  · rintro ⟨l, h1, h2⟩
    rw [List.getElem?_take] at h1
    split at h1
    · exact ⟨by assumption, l, h1, h2⟩
    · cases h1
  · rintro ⟨h0, l, h1, h2⟩
    exact ⟨l, by rw [List.getElem?_take, if_pos h0]; exact h1, h2⟩
theorem given_take {lots : List (List Int)} {j : Nat} {l : List Int} (hl : lots[j]? = some l) {w : List Int} (nd : w.Nodup) : Given (lots.take (j + 1)) w ↔ Given (lots.take j) w ∨ ∃ x ∈ l, x ∈ w ∧ Given (lots.take j) (w.erase x) := by
  constructor
  · rintro ⟨f, h1, h2⟩
    by_cases hx : ∃ x ∈ w, f x = j
    · obtain ⟨x, hx, e⟩ := hx
      refine .inr ⟨x, ?_, hx, f, fun y hy => ?_, fun y hy z hz => h2 y (List.mem_of_mem_erase hy) z (List.mem_of_mem_erase hz)⟩
      · have := (meet_take.mp (h1 x hx)).2
        rw [e] at this
        obtain ⟨l', q1, q2⟩ := meet_iff.mp this
        rw [hl] at q1
        cases q1
        exact q2
      · have hy' := (List.Nodup.mem_erase_iff nd).mp hy
        obtain ⟨q1, q2⟩ := meet_take.mp (h1 y hy'.2)
        refine meet_take.mpr ⟨?_, q2⟩
        have : f y ≠ j := fun e' => hy'.1 (h2 y hy'.2 x hx (e'.trans e.symm))
        omega
    · refine .inl ⟨f, fun y hy => ?_, h2⟩
      obtain ⟨q1, q2⟩ := meet_take.mp (h1 y hy)
      refine meet_take.mpr ⟨?_, q2⟩
      have : f y ≠ j := fun e => hx ⟨y, hy, e⟩
      omega
  · rintro (⟨f, h1, h2⟩ | ⟨x, hxl, hxw, f, h1, h2⟩)
    · exact ⟨f, fun y hy => by
        obtain ⟨q1, q2⟩ := meet_take.mp (h1 y hy)
        exact meet_take.mpr ⟨by omega, q2⟩, h2⟩
    · have er : ∀ y ∈ w, y ≠ x → y ∈ w.erase x := fun y hy hne => (List.Nodup.mem_erase_iff nd).mpr ⟨hne, hy⟩
      refine ⟨fun y => if y = x then j else f y, fun y hy => ?_, fun y hy z hz e => ?_⟩
      · by_cases e : y = x
        · subst e
          show meet _ y (if y = y then j else f y)
          rw [if_pos rfl]
          exact meet_take.mpr ⟨by omega, meet_iff.mpr ⟨l, hl, hxl⟩⟩
        · show meet _ y (if y = x then j else f y)
          rw [if_neg e]
          obtain ⟨q1, q2⟩ := meet_take.mp (h1 y (er y hy e))
          exact meet_take.mpr ⟨by omega, q2⟩
      · have lt : ∀ y ∈ w, y ≠ x → f y < j := fun y hy hne => (meet_take.mp (h1 y (er y hy hne))).1
        by_cases e1 : y = x
        · by_cases e2 : z = x
          · exact e1.trans e2.symm
          · simp only [if_pos e1, if_neg e2] at e
            have := lt z hz e2
            omega
        · by_cases e2 : z = x
          · simp only [if_neg e1, if_pos e2] at e
            have := lt y hy e1
            omega
          · simp only [if_neg e1, if_neg e2] at e
            exact h2 y (er y hy e1) z (er z hz e2) e
theorem given_nil {w : List Int} : Given [] w ↔ w = [] := by
  constructor
  · rintro ⟨f, h1, _⟩
    cases w with
    | nil => rfl
    | cons x w =>
      have := meet_lt (h1 x (.head _))
      exact absurd this (by simp)
  · rintro rfl
    exact ⟨fun _ => 0, fun x hx => absurd hx (by simp), fun x hx => absurd hx (by simp)⟩
end Mp

/-! B1: members and lots as trees; lots of things below m; greatest givings: no program in sight. -/
namespace Mp
open PySem
def memD (m : Nat) (lots : List (List Int)) : D := .tuple [.int m, .tuple (lots.map rowD)]
def lotsAll : Nat → List (List Int)
  | 0 => [[]]
  | m + 1 => lotsAll m ++ (lotsAll m).map (· ++ [(m : Int)])
theorem lotsAll_len : ∀ m, (lotsAll m).length = 2 ^ m
  | 0 => rfl
  | m + 1 => by rw [lotsAll, List.length_append, List.length_map, lotsAll_len m, Nat.pow_succ]; omega
theorem lotsAll_mem_len : ∀ m, ∀ w ∈ lotsAll m, w.length ≤ m
  | 0, w, h => by rw [List.mem_singleton.mp h]; exact Nat.le_refl _
  | m + 1, w, h => by
    rcases List.mem_append.mp h with h | h
    · have := lotsAll_mem_len m w h; omega
    · obtain ⟨v, hv, rfl⟩ := List.mem_map.mp h
      have := lotsAll_mem_len m v hv
      simp
      exact this
theorem lots_stepC (call : Call) (j : Nat) (x0 : Slot) (s : Src) (hj : j ≤ 20) : (∃ σ2, execs (call) fuelW (.cons (.assign 1 false (.bin .add (.var 1) (.comp (.tup (.star (.var 3) (.cons (.var 2) .nil))) (.name 3) (.over (.var 1)) (.bool true) [3]))) .nil) [x0, .frz (waysD (lotsAll j)), .frz (.int j), .no] s = some (.next σ2, s) ∧ keepF [1, 3] 0 σ2 = [.no, .frz (waysD (lotsAll (j + 1))), .no, .no]) ∧
    ∃ σ2, execs (call) fuelW (.cons (.assign 1 false (.bin .add (.var 1) (.comp (.bin .add (.var 3) (.tup (.cons (.var 2) .nil))) (.name 3) (.over (.var 1)) (.bool true) [3]))) .nil) [x0, .frz (waysD (lotsAll j)), .frz (.int j), .no] s = some (.next σ2, s) ∧ keepF [1, 3] 0 σ2 = [.no, .frz (waysD (lotsAll (j + 1))), .no, .no] := by
  have hl : (lotsAll j).length ≤ 2 ^ 20 := by rw [lotsAll_len]; exact Nat.pow_le_pow_right (by omega) hj
  have e20 : (2 : Nat) ^ 20 = 1048576 := by decide
  have e1 : ((lotsAll j).map fun w => rowD (w ++ [(j : Int)])) = ((lotsAll j).map (· ++ [(j : Int)])).map rowD := by rw [List.map_map]; rfl
  have ha : bop .add (waysD (lotsAll j)) (.list ((lotsAll j).map fun w => rowD (w ++ [(j : Int)]))) = some (waysD (lotsAll (j + 1))) := by
    rw [e1]
    exact bop_add_ways (lotsAll j) ((lotsAll j).map (· ++ [(j : Int)])) (by rw [List.length_map]; unfold lim; omega)
  have wl : ∀ w ∈ lotsAll j, w.length + 1 ≤ lim := fun w hw => by have := lotsAll_mem_len j w hw; unfold lim; omega
  have c1 : ev (call) true (.comp (.tup (.star (.var 3) (.cons (.var 2) .nil))) (.name 3) (.over (.var 1)) (.bool true) [3]) [x0, .frz (waysD (lotsAll j)), .frz (.int j), .no] s = some (.list ((lotsAll j).map fun w => rowD (w ++ [(j : Int)])), s) := by
    refine r_comp1 rowD _ (lotsAll j) (r_over (r_var rfl)) (by unfold lim; omega) fun w hw s => ⟨_, rfl, ?_⟩
    rw [← tup_row]
    exact r_tup (r_star (r_var rfl) (seqD_row w) (r_es1 (r_var rfl))) (by rw [List.length_append, List.length_map]; exact wl w hw)
  have c2 : ev (call) true (.comp (.bin .add (.var 3) (.tup (.cons (.var 2) .nil))) (.name 3) (.over (.var 1)) (.bool true) [3]) [x0, .frz (waysD (lotsAll j)), .frz (.int j), .no] s = some (.list ((lotsAll j).map fun w => rowD (w ++ [(j : Int)])), s) := by
    refine r_comp1 rowD _ (lotsAll j) (r_over (r_var rfl)) (by unfold lim; omega) fun w hw s => ⟨_, rfl, ?_⟩
    exact r_bin (r_var rfl) (r_tup (r_es1 (r_var rfl)) (by unfold lim; simp)) (bop_add_row w j (wl w hw))
  exact ⟨⟨_, exs_step (q_assign (r_bin (r_var rfl) c1 ha) rfl) exs_nil, rfl⟩, ⟨_, exs_step (q_assign (r_bin (r_var rfl) c2 ha) rfl) exs_nil, rfl⟩⟩
theorem upto_get {n j : Nat} {x : Int} (h : (upto n)[j]? = some x) : x = j ∧ j < n := by
  unfold upto at h
  rw [List.getElem?_map] at h
  obtain ⟨y, hy, rfl⟩ := Option.map_eq_some_iff.mp h
  have := (List.getElem?_eq_some_iff.mp hy).1
  rw [List.length_range] at this
  rw [List.getElem?_range this] at hy
  exact ⟨by rw [Option.some.inj hy], this⟩
theorem upto_len (n : Nat) : (upto n).length = n := by unfold upto; rw [List.length_map, List.length_range]
def LotIn (m : Nat) (w : List Int) : Prop := w.Pairwise (· < ·) ∧ ∀ x ∈ w, 0 ≤ x ∧ x < m
theorem LotIn.nodup {m : Nat} {w : List Int} (h : LotIn m w) : w.Nodup := List.nodup_iff_pairwise_ne.mpr (h.1.imp fun {a b} h => Int.ne_of_lt h)
theorem mem_lotsAll : ∀ {m : Nat} {w : List Int}, w ∈ lotsAll m ↔ LotIn m w
  | 0, w => by
    show w ∈ [[]] ↔ _
    rw [List.mem_singleton]
    constructor
    · rintro rfl
      exact ⟨List.Pairwise.nil, fun x hx => absurd hx (by simp)⟩
    · intro h
      cases w with
      | nil => rfl
      | cons x w => have := h.2 x (.head _); omega
  | m + 1, w => by
    rw [lotsAll, List.mem_append, List.mem_map]
    constructor
    · rintro (h | ⟨v, hv, rfl⟩)
      · have := mem_lotsAll.mp h
        exact ⟨this.1, fun x hx => by have := this.2 x hx; omega⟩
      · have := mem_lotsAll.mp hv
        refine ⟨List.pairwise_append.mpr ⟨this.1, List.pairwise_singleton _ _, fun a ha b hb => ?_⟩, fun x hx => ?_⟩
        · rw [List.mem_singleton.mp hb]
          exact (this.2 a ha).2
        · rcases List.mem_append.mp hx with hx | hx
          · have := this.2 x hx; omega
          · rw [List.mem_singleton.mp hx]; omega
    · intro h
      rcases List.eq_nil_or_concat w with rfl | ⟨v, b, rfl⟩
      · exact .inl (mem_lotsAll.mpr ⟨List.Pairwise.nil, fun x hx => absurd hx (by simp)⟩)
      · obtain ⟨h1, h2⟩ := h
        rw [List.concat_eq_append] at h1 h2 ⊢
        obtain ⟨p1, _, p3⟩ := List.pairwise_append.mp h1
        have hb := h2 b (by simp)
        have hv : ∀ x ∈ v, 0 ≤ x ∧ x < b := fun x hx => ⟨(h2 x (by simp [hx])).1, p3 x hx b (.head _)⟩
        by_cases e : b = m
        · subst e
          exact .inr ⟨v, mem_lotsAll.mpr ⟨p1, hv⟩, rfl⟩
        · refine .inl (mem_lotsAll.mpr ⟨h1, fun x hx => ?_⟩)
          rcases List.mem_append.mp hx with hx | hx
          · have := hv x hx; omega
          · rw [List.mem_singleton.mp hx]; omega
theorem lotsAll_nodup : ∀ m, (lotsAll m).Nodup
  | 0 => by decide
  | m + 1 => by
    rw [lotsAll]
    refine List.nodup_append.mpr ⟨lotsAll_nodup m, map_nodup _ (lotsAll_nodup m) fun x _ y _ e => List.append_cancel_right e, fun a ha b hb e => ?_⟩
    obtain ⟨v, _, rfl⟩ := List.mem_map.mp hb
    have := (mem_lotsAll.mp ha).2 m (by rw [e]; simp)
    omega
theorem sortI_lot {m : Nat} {w : List Int} (nd : w.Nodup) (h : ∀ x ∈ w, 0 ≤ x ∧ x < m) : LotIn m (sortI w) := by
  refine ⟨?_, fun x hx => h x ((sortI_perm w).mem_iff.mp hx)⟩
  have h1 := sortI_sorted w
  have h2 := List.nodup_iff_pairwise_ne.mp ((sortI_perm w).nodup_iff.mpr nd)
  exact (h1.and h2).imp fun {a b} h => by omega
theorem given_congr {lots : List (List Int)} {a b : List Int} (h : ∀ x, x ∈ a ↔ x ∈ b) : Given lots a ↔ Given lots b := ⟨fun g => g.sub fun x hx => (h x).mpr hx, fun g => g.sub fun x hx => (h x).mp hx⟩
theorem nb_congr {lots : List (List Int)} {a b : List Int} (h : ∀ x, x ∈ a ↔ x ∈ b) : nb lots a = nb lots b := by
  unfold nb
  refine List.filter_congr fun k _ => ?_
  rw [Bool.eq_iff_iff, List.any_eq_true, List.any_eq_true]
  exact ⟨fun ⟨x, p, q⟩ => ⟨x, (h x).mp p, q⟩, fun ⟨x, p, q⟩ => ⟨x, (h x).mpr p, q⟩⟩
/-- too few members meet X: t can't be given beside what g gives -/
def Short (lots : List (List Int)) (g : Gv) (t : Int) : Prop := ∃ X : List Int, X.Nodup ∧ t ∈ X ∧ (∀ x ∈ X, x = t ∨ has g x) ∧ (nb lots X).length < X.length ∧ ∀ k ∈ nb lots X, ∃ y ∈ X, has g y ∧ meet lots y k
open Classical in
/-- the first given lot: thing by thing, each if it can be -/
noncomputable def firstG (lots : List (List Int)) (lot : List Int) : List Int := lot.foldl (fun acc x => if Given lots (acc ++ [x]) then acc ++ [x] else acc) []
open Classical in
theorem firstG_snoc (lots : List (List Int)) (lot : List Int) (x : Int) : firstG lots (lot ++ [x]) = if Given lots (firstG lots lot ++ [x]) then firstG lots lot ++ [x] else firstG lots lot := by
  unfold firstG
  rw [List.foldl_append]
  rfl
theorem firstG_sub (lots : List (List Int)) : ∀ (n : Nat) (lot : List Int), lot.length = n → (firstG lots lot).Sublist lot
  | 0, lot, h => by
    rw [List.length_eq_zero_iff.mp h]
    exact List.Sublist.slnil
  | n + 1, lot, h => by
    have h0 : lot ≠ [] := fun e => by rw [e] at h; simp at h
    obtain ⟨l, x, rfl⟩ : ∃ l x, lot = l ++ [x] := ⟨_, _, (List.dropLast_concat_getLast h0).symm⟩
    rw [List.length_append, List.length_singleton] at h
    have ih := firstG_sub lots n l (by omega)
    rw [firstG_snoc]
    split
    · exact ih.append (List.Sublist.refl _)
    · exact ih.trans (List.sublist_append_left _ _)
/-- what a greatest giving is -/
structure Great (lots : List (List Int)) (lot : List Int) (g : Gv) : Prop where
  giv : Giv lots g
  sub : ∀ y, has g y → y ∈ lot
  max : ∀ t ∈ lot, has g t ∨ Short lots g t
  first : ∀ y, has g y ↔ y ∈ firstG lots lot
theorem short_not {lots : List (List Int)} {g : Gv} {t : Int} {L : List Int} (h : Short lots g t) (hL : ∀ y, has g y → y ∈ L) : ¬ Given lots (L ++ [t]) := fun q => by
  obtain ⟨X, h1, h2, h3, h4, _⟩ := h
  have := hall_easy (q.sub fun y hy => (h3 y hy).elim (fun e => by rw [e]; exact List.mem_append_right _ (.head _)) fun z => List.mem_append_left _ (hL y z)) h1
  omega
theorem short_up {lots : List (List Int)} {g g' : Gv} {t : Int} (h : Short lots g t) (up : ∀ y, has g y → has g' y) : Short lots g' t := by
  obtain ⟨X, h1, h2, h3, h4, h5⟩ := h
  exact ⟨X, h1, h2, fun x hx => (h3 x hx).imp id (up x), h4, fun k hk => let ⟨y, a, b, c⟩ := h5 k hk; ⟨y, a, up y b, c⟩⟩
/-- how many of A are in b -/
def cut (A b : List Int) : Nat := (b.filter fun y => decide (y ∈ A)).length
end Mp

/-! Z1: greatest givings exist (K2 to K5 once more, at defs of their own: for the plain laws; printed from them). -/
namespace Mp.Z0
open PySem Mp
def f_meeting_members : Fn := { names := ["members", "lot", "k", "one", "x"], arity := 2, src := false, body := (.cons (.ret (.bf .tuple (.cons (.comp (.var 2) (.tup [(.name 2), (.name 3)]) (.enum (.idx (.var 0) (.int 1))) (.cmp .ne (.comp (.var 4) (.name 4) (.over (.var 3)) (.cmp .isin (.var 4) (.var 1)) [4]) (.lst .nil)) [2, 3]) .nil))) .nil) }
def f_given_things : Fn := { names := ["giving", "x"], arity := 1, src := false, body := (.cons (.ret (.bf .tuple (.cons (.bf .sorted (.cons (.comp (.var 1) (.name 1) (.over (.var 0)) (.notNone (.var 1)) [1]) .nil)) .nil))) .nil) }
def f_asked_from : Fn := { names := ["members", "giving", "things", "line", "asked", "came", "x", "here", "k"], arity := 3, src := false, body := (.cons (.assigns [(3, true), (4, true), (5, true)] (.cons (.bf .list (.cons (.var 2) .nil)) (.cons .dict0 (.cons (.bf .dict (.cons (.comp (.tup (.cons (.var 6) (.cons .none .nil))) (.name 6) (.over (.var 2)) (.bool true) [6]) .nil)) .nil)))) (.cons (.while_ (.cmp .ne (.var 3) (.lst .nil)) [0, 1, 3, 4, 5] (.cons (.pop (.some 7) 3 (.some (.int 0))) (.cons (.for_ (.name 8) (.over (.call "meeting_members" .none (.cons (.var 0) (.cons (.tup (.cons (.var 7) .nil)) .nil)))) [0, 1, 3, 4, 5, 7] (.cons (.if_ (.cmp .notin (.var 8) (.var 4)) (.cons (.setItem 4 (.var 8) (.var 7)) (.cons (.if_ (.and_ (.notNone (.idx (.var 1) (.var 8))) (.cmp .notin (.idx (.var 1) (.var 8)) (.var 5))) (.cons (.setItem 5 (.idx (.var 1) (.var 8)) (.var 8)) (.cons (.mut .append 3 (.idx (.var 1) (.var 8))) .nil)) .nil) .nil)) .nil) .nil)) .nil))) (.cons (.freeze 5) (.cons (.freeze 4) (.cons (.ret (.tup (.cons (.var 5) (.cons (.var 4) .nil)))) .nil))))) }
def f_greatest_giving : Fn := { names := ["members", "lot", "giving", "thing", "free", "came", "asked", "k", "here"], arity := 2, src := false, body := (.cons (.assign 2 true (.bin .mul (.lst (.cons .none .nil)) (.bf .len (.cons (.idx (.var 0) (.int 1)) .nil)))) (.cons (.for_ (.name 3) (.over (.var 1)) [0, 2, 7] (.cons (.unpack (.tup [(.name 5), (.name 6)]) (.call "asked_from" .none (.cons (.var 0) (.cons (.var 2) (.cons (.lst (.cons (.var 3) .nil)) .nil))))) (.cons (.assign 4 false (.comp (.var 7) (.name 7) (.over (.var 6)) (.isNone (.idx (.var 2) (.var 7))) [7])) (.cons (.if_ (.cmp .ne (.var 4) (.lst .nil)) (.cons (.assigns [(7, false), (8, false)] (.cons (.idx (.var 4) (.int 0)) (.cons (.idx (.var 6) (.idx (.var 4) (.int 0))) .nil))) (.cons (.while_ (.notNone (.var 7)) [0, 2, 5, 6, 7, 8] (.cons (.setItem 2 (.var 7) (.var 8)) (.cons (.assign 7 false (.idx (.var 5) (.var 8))) (.cons (.assign 8 false (.ite (.notNone (.var 7)) (.idx (.var 6) (.var 7)) .none)) .nil)))) .nil)) .nil) .nil)))) (.cons (.ret (.bf .tuple (.cons (.var 2) .nil))) .nil))) }
def Γ0 : String → Option Fn
  | "meeting_members" => some f_meeting_members
  | "given_things" => some f_given_things
  | "asked_from" => some f_asked_from
  | "greatest_giving" => some f_greatest_giving
  | _ => none
def idxD (p : List Int × Nat) : D := .tuple [.int p.2, rowD p.1]
theorem enum_idx : ∀ (lots : List (List Int)) (n : Nat), enumFrom n (lots.map rowD) = (lots.zipIdx n).map idxD
  | [], n => rfl
  | l :: r, n => by
    rw [List.zipIdx_cons, List.map_cons, List.map_cons, ← enum_idx r (n + 1)]
    rfl
def meets (X l : List Int) : Bool := !decide ((l.filter fun x => decide (x ∈ X)) = [])
theorem meets_any (X l : List Int) : meets X l = X.any fun x => decide (x ∈ l) := by
  unfold meets
  rw [Bool.eq_iff_iff, Bool.not_eq_true', decide_eq_false_iff_not, List.filter_eq_nil_iff, List.any_eq_true]
  constructor
  · intro h
    refine Classical.byContradiction fun no => h fun x hx hX => no ⟨x, of_decide_eq_true hX, decide_eq_true hx⟩
  · rintro ⟨x, h1, h2⟩ h
    exact h x (of_decide_eq_true h2) (decide_eq_true h1)
def nbF (X : List Int) : Nat → List (List Int) → List Nat
  | _, [] => []
  | n, l :: r => (if meets X l then [n] else []) ++ nbF X (n + 1) r
theorem nbF_zip (X : List Int) : ∀ (lots : List (List Int)) (n : Nat), ((lots.zipIdx n).filter fun p => meets X p.1).map (·.2) = nbF X n lots
  | [], n => rfl
  | l :: r, n => by
    rw [List.zipIdx_cons, List.filter_cons, nbF, ← nbF_zip X r (n + 1)]
    cases meets X l <;> rfl
theorem nbF_succ (X : List Int) : ∀ (lots : List (List Int)) (n : Nat), nbF X (n + 1) lots = (nbF X n lots).map (· + 1)
  | [], n => rfl
  | l :: r, n => by
    rw [nbF, nbF, List.map_append, nbF_succ X r (n + 1)]
    cases meets X l <;> rfl
theorem nb_eq (X : List Int) : ∀ (lots : List (List Int)), nb lots X = nbF X 0 lots
  | [] => rfl
  | l :: r => by
    rw [nbF, nbF_succ X r 0, ← nb_eq X r]
    unfold nb
    rw [List.length_cons, List.range_succ_eq_map, List.filter_cons, List.filter_map]
    have e0 : (X.any fun x => meetB (l :: r) x 0) = meets X l := (meets_any X l).symm
    rw [e0]
    cases meets X l <;> rfl
def natI (ks : List Nat) : List Int := ks.map fun (k : Nat) => (k : Int)
def meetS : Ss := f_meeting_members.body
theorem meet_run (call : Call) (m : Nat) (lots : List (List Int)) (X : List Int) (s : Src) (hl : lots.length ≤ 1000) (hll : ∀ l ∈ lots, l.length ≤ 1000) :
    execs call fuelW meetS [.frz (memD m lots), .frz (rowD X), .no, .no, .no] s = some (.ret (rowD (natI (nb lots X))), s) := by
  have c1 : ∀ (p : List Int × Nat) (s : Src), p.1.length ≤ 1000 → ev call true (.comp (.var 4) (.name 4) (.over (.var 3)) (.cmp .isin (.var 4) (.var 1)) [4]) [.frz (memD m lots), .frz (rowD X), .frz (.int p.2), .frz (rowD p.1), .no] s = some (.list ((p.1.filter fun x => decide (x ∈ X)).map .int), s) := fun p s hp =>
    r_comp PyData.int (fun x => decide (x ∈ X)) PyData.int p.1 (r_overT (r_var rfl)) (by unfold lim; omega) fun x hx s => ⟨_, rfl, r_cmp (r_var rfl) (r_var rfl) (in_row _ _), fun _ => r_var rfl⟩
  have c2 : ev call true (.comp (.var 2) (.tup [(.name 2), (.name 3)]) (.enum (.idx (.var 0) (.int 1))) (.cmp .ne (.comp (.var 4) (.name 4) (.over (.var 3)) (.cmp .isin (.var 4) (.var 1)) [4]) (.lst .nil)) [2, 3]) [.frz (memD m lots), .frz (rowD X), .no, .no, .no] s = some (.list (((lots.zipIdx).filter fun p => meets X p.1).map fun p => PyData.int p.2), s) := by
    refine r_comp idxD (fun p => meets X p.1) (fun p => PyData.int p.2) (lots.zipIdx) ?_ (by rw [List.length_zipIdx]; unfold lim; omega) fun p hp s => ⟨_, rfl, r_cmp (c1 p s (hll _ (List.fst_mem_of_mem_zipIdx hp))) r_lst0 (cop_ne_ints0 _), fun _ => r_var rfl⟩
    rw [← enum_idx]
    exact r_enumT (r_idx (r_var rfl) (r_int 1) rfl)
  refine exs_ret (q_ret (r_bf1t c2 ?_ rfl))
  show some (PyData.tuple _) = _
  rw [nb_eq, ← nbF_zip X lots 0]
  unfold rowD natI
  rw [List.map_map, List.map_map]
  rfl
theorem meetingM_ok (k m : Nat) (lots : List (List Int)) (X : List Int) (s : Src) (hl : lots.length ≤ 1000) (hll : ∀ l ∈ lots, l.length ≤ 1000) : Gives "meeting_members" false (callN Γ0 (k + 1)) [memD m lots, rowD X] s (rowD (natI (nb lots X))) s :=
  gv (call_def rfl rfl rfl rfl (meet_run _ m lots X s hl hll))

def optD : Option Int → D
  | none => .none
  | some x => .int x
theorem things_ok (k : Nat) (g : Gv) (s : Src) (hl : g.length ≤ 1000) : Gives "given_things" false (callN Γ0 (k + 1)) [.tuple (g.map optD)] s (rowD (sortI (g.filterMap id))) s := by
  refine gv (call_def rfl rfl rfl rfl ?_)
  have e1 : (g.filter (·.isSome)).map optD = (g.filterMap id).map PyData.int := by
    clear hl
    induction g with
    | nil => rfl
    | cons o g ih =>
      cases o with
      | none => exact ih
      | some x =>
        show PyData.int x :: _ = PyData.int x :: _
        rw [ih]
  have hl2 : (g.filterMap id).length ≤ g.length := List.length_filterMap_le _ _
  have c1 : ev (callN Γ0 k) true (.comp (.var 1) (.name 1) (.over (.var 0)) (.notNone (.var 1)) [1]) [.frz (.tuple (g.map optD)), .no] s = some (.list ((g.filterMap id).map PyData.int), s) := by
    rw [← e1]
    refine r_comp optD (·.isSome) optD g (r_overT (r_var rfl)) (by unfold lim; omega) fun o ho s => ⟨_, rfl, ?_, fun _ => r_var rfl⟩
    refine (r_notNone (r_var rfl)).trans ?_
    cases o <;> rfl
  exact exs_ret (q_ret (r_bf1t (r_bf1t c1 (bf_sorted_ints _ (by unfold lim; omega)) rfl) (bf_tuple_ints _) rfl))
def gD (g : Gv) : D := .list (g.map optD)
def optN : Option Nat → D
  | none => .none
  | some k => .int (k : Int)
def lineD (l : List Int) : D := .list (l.map .int)
def askL (a : List (Nat × Int)) : List (Int × D) := a.map fun p => ((p.1 : Int), .int p.2)
def camL (c : List (Int × Option Nat)) : List (Int × D) := c.map fun p => (p.1, optN p.2)
def askD (a : List (Nat × Int)) : D := .dict (kvD .int (askL a))
def camD (c : List (Int × Option Nat)) : D := .dict (kvD .int (camL c))
theorem askL_keys {a : List (Nat × Int)} {k : Nat} : (k : Int) ∈ (askL a).map (·.1) ↔ k ∈ a.map (·.1) := by
  unfold askL
  rw [List.map_map, List.mem_map, List.mem_map]
  constructor
  · rintro ⟨p, h1, h2⟩
    exact ⟨p, h1, Int.ofNat.inj h2⟩
  · rintro ⟨p, h1, rfl⟩
    exact ⟨p, h1, rfl⟩
theorem camL_keys (c : List (Int × Option Nat)) : (camL c).map (·.1) = c.map (·.1) := by
  unfold camL
  rw [List.map_map]
  rfl
theorem in_kv (l : List (Int × D)) (k : Int) : cop .isin (.int k) (.dict (kvD .int l)) = some (decide (k ∈ l.map (·.1))) := by
  show (if keyFits (kvD .int l) (.int k) then some (dhas (kvD .int l) (.int k)) else none) = _
  rw [keyFits_map (φ := PyData.int) false (fun _ => rfl) (fun _ => rfl), dhas_map eqv_int]
  rfl
theorem notin_kv (l : List (Int × D)) (k : Int) : cop .notin (.int k) (.dict (kvD .int l)) = some (!decide (k ∈ l.map (·.1))) := by
  show (if keyFits (kvD .int l) (.int k) then some (!dhas (kvD .int l) (.int k)) else none) = _
  rw [keyFits_map (φ := PyData.int) false (fun _ => rfl) (fun _ => rfl), dhas_map eqv_int]
  rfl
theorem put_kv {l : List (Int × D)} {k : Int} (h : k ∉ l.map (·.1)) (v : D) : dput (kvD .int l) (.int k) v = kvD .int (l ++ [(k, v)]) := by
  rw [dput_map eqv_int]
  unfold mput
  rw [if_neg h]
theorem find_kv : ∀ {l : List (Int × D)} {k : Int} {v : D}, (l.map (·.1)).Nodup → (k, v) ∈ l → (l.find? fun p => decide (p.1 = k)) = some (k, v)
  | p :: l, k, v, nd, h => by
    rw [List.map_cons, List.nodup_cons] at nd
    rw [List.find?_cons]
    rcases List.mem_cons.mp h with rfl | h
    · rw [decide_eq_true rfl]
    · have : p.1 ≠ k := fun e => nd.1 (e ▸ List.mem_map.mpr ⟨(k, v), h, rfl⟩)
      rw [decide_eq_false this]
      exact find_kv nd.2 h
theorem item_kv {l : List (Int × D)} {k : Int} {v : D} (nd : (l.map (·.1)).Nodup) (h : (k, v) ∈ l) : itemAt (.dict (kvD .int l)) (.int k) = some v := by
  show (if keyFits (kvD .int l) (.int k) then dget (kvD .int l) (.int k) else none) = _
  rw [keyFits_map (φ := PyData.int) false (fun _ => rfl) (fun _ => rfl), dget_map eqv_int, find_kv nd h]
  rfl
theorem kvD_len (l : List (Int × D)) : (kvD PyData.int l).length = l.length := by unfold kvD; rw [List.length_map]

def inS : Ss := (.cons (.if_ (.cmp .notin (.var 8) (.var 4)) (.cons (.setItem 4 (.var 8) (.var 7)) (.cons (.if_ (.and_ (.notNone (.idx (.var 1) (.var 8))) (.cmp .notin (.idx (.var 1) (.var 8)) (.var 5))) (.cons (.setItem 5 (.idx (.var 1) (.var 8)) (.var 8)) (.cons (.mut .append 3 (.idx (.var 1) (.var 8))) .nil)) .nil) .nil)) .nil) .nil)
def askE (mem : D) (g : Gv) (here : Slot) (t : St3) : Ev := [.frz mem, .frz (gD g), .no, .own (lineD t.line), .own (askD t.asked), .own (camD t.came), .no, here, .no]
theorem ask_run {call : Call} (mem : D) (g : Gv) (here : Int) (t : St3) (k : Nat) (s : Src) (hk : k < g.length) (hl : t.line.length < 10000) (ha : t.asked.length < 10000) (hc : t.came.length < 10000) :
    ∃ σ2, execs call fuelW inS [.frz mem, .frz (gD g), .no, .own (lineD t.line), .own (askD t.asked), .own (camD t.came), .no, .frz (.int here), .frz (.int (k : Int))] s = some (.next σ2, s) ∧ keepF [0, 1, 3, 4, 5, 7] 0 σ2 = askE mem g (.frz (.int here)) (askStep g here t k) := by
  obtain ⟨o, ho⟩ : ∃ o, g[k]? = some o := ⟨_, List.getElem?_eq_getElem hk⟩
  have hi : itemAt (gD g) (.int (k : Int)) = some (optD o) := item_list (by rw [List.getElem?_map, ho]; rfl)
  have aL : (kvD PyData.int (askL t.asked)).length < lim := by rw [kvD_len]; unfold askL lim; rw [List.length_map]; omega
  have cL : (kvD PyData.int (camL t.came)).length < lim := by rw [kvD_len]; unfold camL lim; rw [List.length_map]; omega
  have c0 : ev call false (.cmp .notin (.var 8) (.var 4)) [.frz mem, .frz (gD g), .no, .own (lineD t.line), .own (askD t.asked), .own (camD t.came), .no, .frz (.int here), .frz (.int (k : Int))] s = some (.bool (!decide ((k : Int) ∈ (askL t.asked).map (·.1))), s) := r_cmp (r_var rfl) (r_var rfl) (notin_kv _ _)
  unfold askStep
  by_cases hk0 : k ∈ akeys t
  · rw [if_pos hk0]
    refine ⟨_, exs_step (q_no c0 (by rw [decide_eq_true (askL_keys.mpr hk0)]; rfl)) exs_nil, rfl⟩
  · rw [if_neg hk0]
    have nk : (k : Int) ∉ (askL t.asked).map (·.1) := fun z => hk0 (askL_keys.mp z)
    have e1 : dput (kvD .int (askL t.asked)) (.int (k : Int)) (.int here) = kvD .int (askL (t.asked ++ [(k, here)])) := by
      rw [put_kv nk]
      unfold askL
      rw [List.map_append]
      rfl
    have s1 : exec call fuelW (.setItem 4 (.var 8) (.var 7)) [.frz mem, .frz (gD g), .no, .own (lineD t.line), .own (askD t.asked), .own (camD t.came), .no, .frz (.int here), .frz (.int (k : Int))] s =
        some (.next [.frz mem, .frz (gD g), .no, .own (lineD t.line), .own (askD (t.asked ++ [(k, here)])), .own (camD t.came), .no, .frz (.int here), .frz (.int (k : Int))], s) := by
      have := q_setD (call := call) (fuel := fuelW) (x := 4) (k := .var 8) (v := .var 7) (σ := [.frz mem, .frz (gD g), .no, .own (lineD t.line), .own (askD t.asked), .own (camD t.came), .no, .frz (.int here), .frz (.int (k : Int))]) (s := s) (kvs := kvD .int (askL t.asked)) (kd := .int (k : Int)) (vd := .int here) (r_var rfl) (r_var rfl) rfl (keyFits_map (φ := PyData.int) false (fun _ => rfl) (fun _ => rfl) _ _) aL
      rw [e1] at this
      exact this
    have yes : (!decide ((k : Int) ∈ (askL t.asked).map (·.1))) = true := by rw [decide_eq_false nk]; rfl
    have i1 : ∀ b, ev call b (.idx (.var 1) (.var 8)) [.frz mem, .frz (gD g), .no, .own (lineD t.line), .own (askD (t.asked ++ [(k, here)])), .own (camD t.came), .no, .frz (.int here), .frz (.int (k : Int))] s = some (optD o, s) := fun b => r_idx (r_var rfl) (r_var rfl) hi
    rw [ho]
    cases o with
    | none =>
      refine ⟨_, exs_step (q_yes c0 yes (exs_step s1 (exs_step (q_no (r_and_f ((r_notNone (i1 _)).trans rfl)) rfl) exs_nil))) exs_nil, rfl⟩
    | some y =>
      have c2 : ev call false (.and_ (.notNone (.idx (.var 1) (.var 8))) (.cmp .notin (.idx (.var 1) (.var 8)) (.var 5))) [.frz mem, .frz (gD g), .no, .own (lineD t.line), .own (askD (t.asked ++ [(k, here)])), .own (camD t.came), .no, .frz (.int here), .frz (.int (k : Int))] s = some (.bool (!decide (y ∈ (camL t.came).map (·.1))), s) :=
        r_and_t ((r_notNone (i1 _)).trans rfl) (r_cmp (i1 _) (r_var rfl) (notin_kv _ _))
      rw [camL_keys] at c2
      by_cases hy : y ∈ ckeys t
      · simp only [if_pos hy]
        exact ⟨_, exs_step (q_yes c0 yes (exs_step s1 (exs_step (q_no c2 (by rw [decide_eq_true hy]; rfl)) exs_nil))) exs_nil, rfl⟩
      · simp only [if_neg hy]
        have ny : y ∉ (camL t.came).map (·.1) := by rw [camL_keys]; exact hy
        have e2 : dput (kvD .int (camL t.came)) (.int y) (.int (k : Int)) = kvD .int (camL (t.came ++ [(y, some k)])) := by
          rw [put_kv ny]
          unfold camL
          rw [List.map_append]
          rfl
        have s2 : exec call fuelW (.setItem 5 (.idx (.var 1) (.var 8)) (.var 8)) [.frz mem, .frz (gD g), .no, .own (lineD t.line), .own (askD (t.asked ++ [(k, here)])), .own (camD t.came), .no, .frz (.int here), .frz (.int (k : Int))] s =
            some (.next [.frz mem, .frz (gD g), .no, .own (lineD t.line), .own (askD (t.asked ++ [(k, here)])), .own (camD (t.came ++ [(y, some k)])), .no, .frz (.int here), .frz (.int (k : Int))], s) := by
          have := q_setD (call := call) (fuel := fuelW) (x := 5) (k := .idx (.var 1) (.var 8)) (v := .var 8) (kd := .int y) (vd := .int (k : Int)) (kvs := kvD .int (camL t.came)) (r_var rfl) (i1 _) rfl (keyFits_map (φ := PyData.int) false (fun _ => rfl) (fun _ => rfl) _ _) cL
          rw [e2] at this
          exact this
        have s3 : exec call fuelW (.mut .append 3 (.idx (.var 1) (.var 8))) [.frz mem, .frz (gD g), .no, .own (lineD t.line), .own (askD (t.asked ++ [(k, here)])), .own (camD (t.came ++ [(y, some k)])), .no, .frz (.int here), .frz (.int (k : Int))] s =
            some (.next [.frz mem, .frz (gD g), .no, .own (lineD (t.line ++ [y])), .own (askD (t.asked ++ [(k, here)])), .own (camD (t.came ++ [(y, some k)])), .no, .frz (.int here), .frz (.int (k : Int))], s) := by
          have := q_append (call := call) (fuel := fuelW) (x := 3) (e := .idx (.var 1) (.var 8)) (d := .int y) (xs := t.line.map .int) (σ := [.frz mem, .frz (gD g), .no, .own (lineD t.line), .own (askD (t.asked ++ [(k, here)])), .own (camD (t.came ++ [(y, some k)])), .no, .frz (.int here), .frz (.int (k : Int))]) (s := s) (s1 := s) (r_idx (r_var rfl) (r_var rfl) hi) rfl (by rw [List.length_map]; unfold lim; omega)
          refine this.trans ?_
          unfold lineD
          rw [List.map_append]
          rfl
        exact ⟨_, exs_step (q_yes c0 yes (exs_step s1 (exs_step (q_yes c2 (by rw [decide_eq_false hy]; rfl) (exs_step s2 (exs_step s3 exs_nil))) exs_nil))) exs_nil, rfl⟩
theorem natI_D (ks : List Nat) : (natI ks).map PyData.int = ks.map fun (k : Nat) => PyData.int (k : Int) := by
  unfold natI
  rw [List.map_map]
  rfl
theorem mid_len {lots : List (List Int)} {g : Gv} {t0 here : Int} {done : List Nat} {t : St3} (hg : Giv lots g) (h : Mid lots g t0 here done t) : t.line.length ≤ t.came.length ∧ t.came.length ≤ lots.length + 1 ∧ t.asked.length ≤ lots.length := by
  refine ⟨?_, came_le h.as hg, asked_le h.as⟩
  have := h.nd.length_le_of_subset (l₂ := ckeys t) h.sub
  rwa [List.length_map] at this
theorem here_run (n m : Nat) (lots : List (List Int)) (g : Gv) (t0 here : Int) (t : St3) (s : Src) (hg : Giv lots g) (hl : lots.length ≤ 1000) (hll : ∀ l ∈ lots, l.length ≤ 1000) (h : Mid lots g t0 here [] t) :
    ∃ t', exec (callN Γ0 (n + 1)) fuelW (.for_ (.name 8) (.over (.call "meeting_members" .none (.cons (.var 0) (.cons (.tup (.cons (.var 7) .nil)) .nil)))) [0, 1, 3, 4, 5, 7] inS) (askE (memD m lots) g (.frz (.int here)) t) s = some (.next (askE (memD m lots) g (.frz (.int here)) t'), s) ∧
      Mid lots g t0 here (nb lots [here]) t' ∧ t'.came.length + t.line.length = t.came.length + t'.line.length := by
  have mt := (meetingM_ok n m lots [here] s hl hll).eq
  obtain ⟨σ', e, t', rfl, h1, h2⟩ := exs_forI (call := callN Γ0 (n + 1)) (fuel := fuelW) (t := .name 8) (it := .over (.call "meeting_members" .none (.cons (.var 0) (.cons (.tup (.cons (.var 7) .nil)) .nil)))) (keep := [0, 1, 3, 4, 5, 7]) (body := inS) (σ := askE (memD m lots) g (.frz (.int here)) t) (s := s) (s1 := s) (fun (k : Nat) => PyData.int (k : Int)) (nb lots [here])
    (fun j σ => ∃ t', σ = askE (memD m lots) g (.frz (.int here)) t' ∧ Mid lots g t0 here ((nb lots [here]).take j) t' ∧ t'.came.length + t.line.length = t.came.length + t'.line.length) rfl
    (by
      rw [← natI_D]
      exact r_overT (r_call rfl (r_es (r_var rfl) (r_es1 (r_tup (r_es1 (r_var rfl)) (by unfold lim; simp)))) rfl mt))
    ⟨t, rfl, h, rfl⟩ (by
      rintro j k σ hj ⟨t', rfl, h1, h2⟩
      obtain ⟨x, hx, hm⟩ := mem_nb.mp (List.mem_of_getElem? hj)
      rw [List.mem_singleton.mp hx] at hm
      obtain ⟨l1, l2, l3⟩ := mid_len hg h1
      obtain ⟨σ2, e1, e2⟩ := ask_run (call := callN Γ0 (n + 1)) (memD m lots) g here t' k s (by rw [hg.len]; exact meet_lt hm) (by omega) (by omega) (by omega)
      obtain ⟨h3, h4⟩ := mid_step hg h1 hm
      refine ⟨_, σ2, rfl, e1, askStep g here t' k, e2, ?_, by omega⟩
      rw [List.take_add_one, hj]
      exact h3)
  rw [List.take_length] at h1
  exact ⟨t', e, h1, h2⟩
theorem asked_ok (n m : Nat) (lots : List (List Int)) (g : Gv) (t0 : Int) (s : Src) (hg : Giv lots g) (hl : lots.length ≤ 1000) (hll : ∀ l ∈ lots, l.length ≤ 1000) :
    ∃ asked came, Gives "asked_from" false (callN Γ0 (n + 2)) [memD m lots, gD g, .list [.int t0]] s (.tuple [camD came, askD asked]) s ∧ Asked lots g t0 asked came ∧ Closed lots asked came := by
  have c0 : ev (callN Γ0 (n + 1)) true (.comp (.tup (.cons (.var 6) (.cons .none .nil))) (.name 6) (.over (.var 2)) (.bool true) [6]) [.frz (memD m lots), .frz (gD g), .frz (.list [.int t0]), .no, .no, .no, .no, .no, .no] s = some (.list [.tuple [.int t0, .none]], s) :=
    r_comp1 PyData.int (fun x => .tuple [.int x, .none]) [t0] (r_over (r_var rfl)) (by unfold lim; simp) fun x hx s => ⟨_, rfl, r_tup (r_es (r_var rfl) (r_es1 r_none)) (by unfold lim; simp)⟩
  have s0 : exec (callN Γ0 (n + 1)) fuelW (.assigns [(3, true), (4, true), (5, true)] (.cons (.bf .list (.cons (.var 2) .nil)) (.cons .dict0 (.cons (.bf .dict (.cons (.comp (.tup (.cons (.var 6) (.cons .none .nil))) (.name 6) (.over (.var 2)) (.bool true) [6]) .nil)) .nil)))) [.frz (memD m lots), .frz (gD g), .frz (.list [.int t0]), .no, .no, .no, .no, .no, .no] s =
      some (.next [.frz (memD m lots), .frz (gD g), .frz (.list [.int t0]), .own (lineD [t0]), .own (askD []), .own (camD [(t0, none)]), .no, .no, .no], s) :=
    q_assigns (r_es (r_bf1t (r_var rfl) rfl rfl) (r_es r_dict0 (r_es1 (r_bf1t c0 (show bf .dict [.list [.tuple [.int t0, .none]]] = some (camD [(t0, none)]) from rfl) rfl)))) rfl
  obtain ⟨σ', s', e1, rfl, t', rfl, hb, he⟩ := while_execF (call := callN Γ0 (n + 1)) (fuel := fuelW) (c := .cmp .ne (.var 3) (.lst .nil)) (keep := [0, 1, 3, 4, 5]) (body := .cons (.pop (.some 7) 3 (.some (.int 0))) (.cons (.for_ (.name 8) (.over (.call "meeting_members" .none (.cons (.var 0) (.cons (.tup (.cons (.var 7) .nil)) .nil)))) [0, 1, 3, 4, 5, 7] inS) .nil))
    (σ := [.frz (memD m lots), .frz (gD g), .frz (.list [.int t0]), .own (lineD [t0]), .own (askD []), .own (camD [(t0, none)]), .no, .no, .no]) (s := s)
    (fun q σ s' => s' = s ∧ ∃ t, σ = askE (memD m lots) g .no t ∧ Bfs lots g t0 t ∧ q + t.came.length = lots.length + 2 + t.line.length)
    (fun σ s' => s' = s ∧ ∃ t, σ = askE (memD m lots) g .no t ∧ Bfs lots g t0 t ∧ t.line = [])
    (lots.length + 2) (by unfold fuelW; omega) ⟨rfl, ⟨[t0], [], [(t0, none)]⟩, rfl, bfs_start lots g t0, rfl⟩ (by
      rintro q σ s' ⟨rfl, ⟨line, asked, came⟩, rfl, hb, hq⟩
      cases line with
      | nil => exact .inl ⟨s', r_cmp (r_var rfl) r_lst0 (cop_ne_ints0 []), rfl, _, rfl, hb, rfl⟩
      | cons x l =>
        have hm := bfs_pop hb
        have lc := came_le hm.as hg
        obtain ⟨t', e2, h1, h2⟩ := here_run n m lots g t0 x ⟨l, asked, came⟩ s' hg hl hll hm
        have pop : exec (callN Γ0 (n + 1)) fuelW (.pop (.some 7) 3 (.some (.int 0))) (askE (memD m lots) g .no ⟨x :: l, asked, came⟩) s' = some (.next (askE (memD m lots) g (.frz (.int x)) ⟨l, asked, came⟩), s') :=
          q_popAt (k := 0) (j := 0) (xs := (x :: l).map .int) (d := .int x) (r_int 0) rfl rfl (by unfold ixNat; rw [if_pos (by omega), if_pos (by simp only [List.length_map, List.length_cons]; omega)]; rfl) rfl
        simp only [List.length_cons] at hq h2
        have l1 := (mid_len hg h1)
        refine .inr ⟨lots.length + 2 + t'.line.length - t'.came.length, _, s', s', r_cmp (r_var rfl) r_lst0 (cop_ne_ints0 (x :: l)), exs_step pop (exs_step e2 exs_nil), by omega, rfl, t', rfl, mid_bfs h1, by omega⟩)
  refine ⟨t'.asked, t'.came, gv (call_def rfl rfl rfl rfl (exs_step s0 (exs_step e1 (q_freeze rfl (q_freeze rfl (exs_ret (q_ret (r_tup (r_es (r_var rfl) (r_es1 (r_var rfl))) (show 2 ≤ lim by decide))))))))), hb.as, fun x hx k hk => ?_⟩
  exact hb.old x hx (by rw [he]; simp) k hk
theorem item_came {c : List (Int × Option Nat)} (nd : (c.map (·.1)).Nodup) {x : Int} {o : Option Nat} (h : (x, o) ∈ c) : itemAt (camD c) (.int x) = some (optN o) := item_kv (by rw [camL_keys]; exact nd) (List.mem_map.mpr ⟨(x, o), h, rfl⟩)
theorem askL_nodup {a : List (Nat × Int)} (nd : (a.map (·.1)).Nodup) : ((askL a).map (·.1)).Nodup := by
  have : (askL a).map (·.1) = (a.map (·.1)).map fun (k : Nat) => (k : Int) := by
    unfold askL
    rw [List.map_map, List.map_map]
    rfl
  rw [this]
  exact map_nodup _ nd fun x _ y _ e => Int.ofNat.inj e
theorem item_ask {a : List (Nat × Int)} (nd : (a.map (·.1)).Nodup) {k : Nat} {x : Int} (h : (k, x) ∈ a) : itemAt (askD a) (.int (k : Int)) = some (.int x) := item_kv (askL_nodup nd) (List.mem_map.mpr ⟨(k, x), h, rfl⟩)

def backS : Ss := .cons (.setItem 2 (.var 7) (.var 8)) (.cons (.assign 7 false (.idx (.var 5) (.var 8))) (.cons (.assign 8 false (.ite (.notNone (.var 7)) (.idx (.var 6) (.var 7)) .none)) .nil))
theorem back_run {call : Call} (mem : D) {lots : List (List Int)} {g : Gv} {t0 : Int} {asked : List (Nat × Int)} {came : List (Int × Option Nat)} (h : Asked lots g t0 asked came) (hg : Giv lots g) (ht : ¬ has g t0) {i k : Nat} {x : Int} (hi : asked[i]? = some (k, x)) (hk : g[k]? = some none) (hl : lots.length ≤ 1000) (x1 x3 x4 : Slot) (s : Src) :
    ∃ g', exec call fuelW (.while_ (.notNone (.var 7)) [0, 2, 5, 6, 7, 8] backS) [.frz mem, x1, .own (gD g), x3, x4, .frz (camD came), .frz (askD asked), .frz (.int (k : Int)), .frz (.int x)] s = some (.next [.frz mem, .no, .own (gD g'), .no, .no, .frz (camD came), .frz (askD asked), .frz .none, .frz .none], s) ∧ Giv lots g' ∧ ∀ y, has g' y ↔ has g y ∨ y = t0 := by
  have il := (List.getElem?_eq_some_iff.mp hi).1
  have al := asked_le h
  obtain ⟨σ', s', e, rfl, g', rfl, h1, h2⟩ := while_execF (call := call) (fuel := fuelW) (c := .notNone (.var 7)) (keep := [0, 2, 5, 6, 7, 8]) (body := backS) (σ := [.frz mem, x1, .own (gD g), x3, x4, .frz (camD came), .frz (askD asked), .frz (.int (k : Int)), .frz (.int x)]) (s := s)
    (fun q σ s' => s' = s ∧ ((∃ i k x g', q = i + 1 ∧ σ = [.frz mem, .no, .own (gD g'), .no, .no, .frz (camD came), .frz (askD asked), .frz (.int ((k : Nat) : Int)), .frz (.int x)] ∧ Back lots g asked i k x g') ∨ (q = 0 ∧ ∃ g', σ = [.frz mem, .no, .own (gD g'), .no, .no, .frz (camD came), .frz (askD asked), .frz .none, .frz .none] ∧ Giv lots g' ∧ ∀ y, has g' y ↔ has g y ∨ y = t0)))
    (fun σ s' => s' = s ∧ ∃ g', σ = [.frz mem, .no, .own (gD g'), .no, .no, .frz (camD came), .frz (askD asked), .frz .none, .frz .none] ∧ Giv lots g' ∧ ∀ y, has g' y ↔ has g y ∨ y = t0)
    (i + 1) (by unfold fuelW; omega) ⟨rfl, .inl ⟨i, k, x, g, rfl, rfl, back_start h hg hi hk⟩⟩ (by
      rintro q σ s' ⟨rfl, ⟨i, k, x, g', rfl, rfl, b⟩ | ⟨rfl, g', rfl, h1, h2⟩⟩
      · obtain ⟨hm, hx, _⟩ := h.am i k x b.at_
        have kl : k < g'.length := by rw [b.len]; exact meet_lt hm
        have set : exec call fuelW (.setItem 2 (.var 7) (.var 8)) [.frz mem, .no, .own (gD g'), .no, .no, .frz (camD came), .frz (askD asked), .frz (.int (k : Int)), .frz (.int x)] s' = some (.next [.frz mem, .no, .own (gD (g'.set k (some x))), .no, .no, .frz (camD came), .frz (askD asked), .frz (.int (k : Int)), .frz (.int x)], s') := by
          have := q_setL (call := call) (fuel := fuelW) (x := 2) (k := .var 7) (v := .var 8) (i := (k : Int)) (j := k) (vd := .int x) (xs := g'.map optD) (σ := [.frz mem, .no, .own (gD g'), .no, .no, .frz (camD came), .frz (askD asked), .frz (.int (k : Int)), .frz (.int x)]) (s := s') (r_var rfl) (r_var rfl) rfl (ix_nat (by rw [List.length_map]; exact kl))
          refine this.trans ?_
          unfold gD
          rw [List.map_set]
          rfl
        obtain ⟨o, ho⟩ := mem_keys.mp hx
        have i5 : itemAt (camD came) (.int x) = some (optN o) := item_came h.ck ho
        have s2 : exec call fuelW (.assign 7 false (.idx (.var 5) (.var 8))) [.frz mem, .no, .own (gD (g'.set k (some x))), .no, .no, .frz (camD came), .frz (askD asked), .frz (.int (k : Int)), .frz (.int x)] s' = some (.next [.frz mem, .no, .own (gD (g'.set k (some x))), .no, .no, .frz (camD came), .frz (askD asked), .frz (optN o), .frz (.int x)], s') := q_assign (r_idx (r_var rfl) (r_var rfl) i5) rfl
        have c0 : ev call false (.notNone (.var 7)) [.frz mem, .no, .own (gD g'), .no, .no, .frz (camD came), .frz (askD asked), .frz (.int (k : Int)), .frz (.int x)] s' = some (.bool true, s') := r_notNone (d := .int (k : Int)) (r_var rfl)
        cases o with
        | none =>
          obtain rfl := h.tn x ho
          obtain ⟨e1, e2⟩ := back_end h ht b
          refine .inr ⟨0, _, s', s', c0, exs_step set (exs_step s2 (exs_step (q_assign (r_ite (t := false) (r_notNone (d := .none) (r_var rfl)) rfl) rfl) exs_nil)), by omega, rfl, .inr ⟨rfl, _, rfl, e1, e2⟩⟩
        | some k' =>
          obtain ⟨i', x', hlt, hi', b'⟩ := back_step h b ho
          have i6 : itemAt (askD asked) (.int (k' : Int)) = some (.int x') := item_ask h.ak (List.mem_of_getElem? hi')
          refine .inr ⟨i' + 1, _, s', s', c0, exs_step set (exs_step s2 (exs_step (q_assign (r_ite (t := true) (r_notNone (d := .int (k' : Int)) (r_var rfl)) (r_idx (b := false) (r_var rfl) (r_var rfl) i6)) rfl) exs_nil)), by omega, rfl, .inl ⟨i', k', x', _, rfl, rfl, b'⟩⟩
      · exact .inl ⟨s', r_notNone (d := .none) (r_var rfl), rfl, g', rfl, h1, h2⟩)
  exact ⟨g', e, h1, h2⟩

def thingS : Ss := .cons (.unpack (.tup [(.name 5), (.name 6)]) (.call "asked_from" .none (.cons (.var 0) (.cons (.var 2) (.cons (.lst (.cons (.var 3) .nil)) .nil))))) (.cons (.assign 4 false (.comp (.var 7) (.name 7) (.over (.var 6)) (.isNone (.idx (.var 2) (.var 7))) [7])) (.cons (.if_ (.cmp .ne (.var 4) (.lst .nil)) (.cons (.assigns [(7, false), (8, false)] (.cons (.idx (.var 4) (.int 0)) (.cons (.idx (.var 6) (.idx (.var 4) (.int 0))) .nil))) (.cons (.while_ (.notNone (.var 7)) [0, 2, 5, 6, 7, 8] backS) .nil)) .nil) .nil))
theorem thing_run (n m : Nat) (lots : List (List Int)) (g : Gv) (t0 : Int) (x1 x4 x5 x6 x7 x8 : Slot) (s : Src) (hg : Giv lots g) (ht : ¬ has g t0) (hl : lots.length ≤ 1000) (hll : ∀ l ∈ lots, l.length ≤ 1000) :
    ∃ g' x7' σ2, execs (callN Γ0 (n + 2)) fuelW thingS [.frz (memD m lots), x1, .own (gD g), .frz (.int t0), x4, x5, x6, x7, x8] s = some (.next σ2, s) ∧ keepF [0, 2, 7] 0 σ2 = [.frz (memD m lots), .no, .own (gD g'), .no, .no, .no, .no, x7', .no] ∧ Giv lots g' ∧
      ((∀ y, has g' y ↔ has g y ∨ y = t0) ∨ (g' = g ∧ Short lots g t0)) := by
  obtain ⟨asked, came, ea, as, cl⟩ := asked_ok n m lots g t0 s hg hl hll
  have al := asked_le as
  have lt : ∀ k ∈ asked.map (·.1), k < g.length := fun k hk => by
    obtain ⟨x, hx⟩ := mem_keys.mp hk
    obtain ⟨i, hi⟩ := List.mem_iff_getElem?.mp hx
    rw [hg.len]
    exact meet_lt (as.am i k x hi).1
  have s0 : exec (callN Γ0 (n + 2)) fuelW (.unpack (.tup [(.name 5), (.name 6)]) (.call "asked_from" .none (.cons (.var 0) (.cons (.var 2) (.cons (.lst (.cons (.var 3) .nil)) .nil))))) [.frz (memD m lots), x1, .own (gD g), .frz (.int t0), x4, x5, x6, x7, x8] s =
      some (.next [.frz (memD m lots), x1, .own (gD g), .frz (.int t0), x4, .frz (camD came), .frz (askD asked), x7, x8], s) := by
    refine q_unpack (r_callB (ds := [memD m lots, gD g, .list [.int t0]]) (r_es (r_var rfl) (r_es (r_var rfl) (r_es1 (r_lst (r_es1 (r_var rfl)) (show 1 ≤ lim by decide))))) ea.eq rfl rfl ?_) rfl
    have noL : ∀ l : List (Int × D), (∀ p ∈ l, hasL p.2 = false) → hasLKv (kvD .int l) = false := by
      intro l
      induction l with
      | nil => intro _; rfl
      | cons p l ih =>
        intro h
        show (hasL p.2 || hasLKv (kvD .int l)) = false
        rw [h p (.head _), ih fun q hq => h q (.tail _ hq)]
        rfl
    have e1 : hasL (.tuple [camD came, askD asked]) = false := by
      show (hasLKv (kvD .int (camL came)) || (hasLKv (kvD .int (askL asked)) || false)) = false
      rw [noL _ fun p hp => ?_, noL _ fun p hp => ?_]
      · rfl
      · obtain ⟨q, _, rfl⟩ := List.mem_map.mp hp
        rfl
      · obtain ⟨q, _, rfl⟩ := List.mem_map.mp hp
        cases q.2 <;> rfl
    rw [e1]
    simp [noDict, memD, gD]
  obtain ⟨free, hfd⟩ : ∃ free : List Nat, free = (asked.map (·.1)).filter fun k => g[k]? == some none := ⟨_, rfl⟩
  have fl : free.length ≤ asked.length := by
    rw [hfd]
    have := List.length_filter_le (fun k => g[k]? == some none) (asked.map (·.1))
    rwa [List.length_map] at this
  have c1 : ev (callN Γ0 (n + 2)) false (.comp (.var 7) (.name 7) (.over (.var 6)) (.isNone (.idx (.var 2) (.var 7))) [7]) [.frz (memD m lots), x1, .own (gD g), .frz (.int t0), x4, .frz (camD came), .frz (askD asked), x7, x8] s = some (.list ((natI free).map .int), s) := by
    rw [natI_D, hfd]
    refine r_comp (fun (k : Nat) => PyData.int (k : Int)) (fun k => g[k]? == some none) (fun (k : Nat) => PyData.int (k : Int)) (asked.map (·.1)) ?_ (by rw [List.length_map]; unfold lim; omega) fun k hk s => ?_
    · refine (r_overK rfl).trans ?_
      unfold kvD askL
      rw [List.map_map, List.map_map, List.map_map]
      rfl
    · obtain ⟨o, ho⟩ : ∃ o, g[k]? = some o := ⟨_, List.getElem?_eq_getElem (lt k hk)⟩
      refine ⟨[.frz (memD m lots), x1, .own (gD g), .frz (.int t0), x4, .frz (camD came), .frz (askD asked), .frz (.int (k : Int)), x8], rfl, ?_, fun _ => r_var rfl⟩
      refine (r_isNone (r_idx (r_var rfl) (r_var rfl) (item_list (d := optD o) (by rw [List.getElem?_map, ho]; rfl)))).trans ?_
      rw [ho]
      cases o <;> rfl
  have s1 : exec (callN Γ0 (n + 2)) fuelW (.assign 4 false (.comp (.var 7) (.name 7) (.over (.var 6)) (.isNone (.idx (.var 2) (.var 7))) [7])) [.frz (memD m lots), x1, .own (gD g), .frz (.int t0), x4, .frz (camD came), .frz (askD asked), x7, x8] s =
      some (.next [.frz (memD m lots), x1, .own (gD g), .frz (.int t0), .frz (.list ((natI free).map .int)), .frz (camD came), .frz (askD asked), x7, x8], s) := q_assign c1 rfl
  have c2 : ev (callN Γ0 (n + 2)) false (.cmp .ne (.var 4) (.lst .nil)) [.frz (memD m lots), x1, .own (gD g), .frz (.int t0), .frz (.list ((natI free).map .int)), .frz (camD came), .frz (askD asked), x7, x8] s = some (.bool (!decide (natI free = [])), s) := r_cmp (r_var rfl) r_lst0 (cop_ne_ints0 _)
  cases hfree : free with
  | nil =>
    refine ⟨g, x7, _, exs_step s0 (exs_step s1 (exs_step (q_no c2 (by rw [hfree]; rfl)) exs_nil)), rfl, hg, .inr ⟨rfl, ?_⟩⟩
    have nofree : ∀ k ∈ asked.map (·.1), ∃ y, g[k]? = some (some y) := fun k hk => by
      obtain ⟨o, ho⟩ : ∃ o, g[k]? = some o := ⟨_, List.getElem?_eq_getElem (lt k hk)⟩
      cases o with
      | some y => exact ⟨y, ho⟩
      | none =>
        have : k ∈ free := hfd ▸ List.mem_filter.mpr ⟨hk, by rw [ho]; rfl⟩
        rw [hfree] at this
        cases this
    obtain ⟨X, h1, h2, h3, h4, h5⟩ := as.few hg ht cl nofree
    exact ⟨X, h1, h2, h3, h4, fun k hk => by
      obtain ⟨y, hy, e⟩ := h5 k hk
      exact ⟨y, hy, ⟨k, e⟩, hg.ok k y e⟩⟩
  | cons k0 r =>
    have hk0 : k0 ∈ free := by rw [hfree]; exact .head _
    obtain ⟨hka, hkn⟩ := List.mem_filter.mp (hfd ▸ hk0)
    have hkn' : g[k0]? = some none := eq_of_beq hkn
    obtain ⟨x, hx⟩ := mem_keys.mp hka
    obtain ⟨i, hi⟩ := List.mem_iff_getElem?.mp hx
    have i4 : itemAt (.list ((natI free).map .int)) (.int 0) = some (.int (k0 : Int)) := by
      rw [hfree]
      exact item_list (j := 0) rfl
    have i6 : itemAt (askD asked) (.int (k0 : Int)) = some (.int x) := item_ask as.ak hx
    have e4 : ev (callN Γ0 (n + 2)) false (.idx (.var 4) (.int 0)) [.frz (memD m lots), x1, .own (gD g), .frz (.int t0), .frz (.list ((natI free).map .int)), .frz (camD came), .frz (askD asked), x7, x8] s = some (.int (k0 : Int), s) := r_idx (r_var rfl) (r_int 0) i4
    have s2 : exec (callN Γ0 (n + 2)) fuelW (.assigns [(7, false), (8, false)] (.cons (.idx (.var 4) (.int 0)) (.cons (.idx (.var 6) (.idx (.var 4) (.int 0))) .nil))) [.frz (memD m lots), x1, .own (gD g), .frz (.int t0), .frz (.list ((natI free).map .int)), .frz (camD came), .frz (askD asked), x7, x8] s =
        some (.next [.frz (memD m lots), x1, .own (gD g), .frz (.int t0), .frz (.list ((natI free).map .int)), .frz (camD came), .frz (askD asked), .frz (.int (k0 : Int)), .frz (.int x)], s) := q_assigns (r_es e4 (r_es1 (r_idx (r_var rfl) e4 i6))) rfl
    obtain ⟨g', e5, h1, h2⟩ := back_run (call := callN Γ0 (n + 2)) (memD m lots) as hg ht hi hkn' hl x1 (.frz (.int t0)) (.frz (.list ((natI free).map .int))) s
    exact ⟨g', _, _, exs_step s0 (exs_step s1 (exs_step (q_yes c2 (by rw [hfree]; rfl) (exs_step s2 (exs_step e5 exs_nil))) exs_nil)), rfl, h1, .inl h2⟩

theorem great_ok (n m : Nat) (lots : List (List Int)) (lot : List Int) (s : Src) (nd : lot.Nodup) (hl : lots.length ≤ 1000) (hll : ∀ l ∈ lots, l.length ≤ 1000) :
    ∃ g, Gives "greatest_giving" false (callN Γ0 (n + 3)) [memD m lots, rowD lot] s (.tuple (g.map optD)) s ∧ Great lots lot g := by
  have b0 : bop .mul (.list [.none]) (.int (lots.length : Int)) = some (gD (List.replicate lots.length none)) := by
    simp only [bop]
    rw [if_pos ⟨by omega, by omega, by simp; unfold lim; omega⟩, Int.toNat_natCast]
    unfold gD
    rw [List.map_replicate]
    congr 2
    have : ∀ q : Nat, (List.replicate q [PyData.none]).flatten = List.replicate q (optD none) := by
      intro q
      induction q with
      | zero => rfl
      | succ q ih =>
        rw [List.replicate_succ, List.flatten_cons, ih, List.replicate_succ]
        rfl
    exact this _
  have s0 : exec (callN Γ0 (n + 2)) fuelW (.assign 2 true (.bin .mul (.lst (.cons .none .nil)) (.bf .len (.cons (.idx (.var 0) (.int 1)) .nil)))) [.frz (memD m lots), .frz (rowD lot), .no, .no, .no, .no, .no, .no, .no] s =
      some (.next [.frz (memD m lots), .frz (rowD lot), .own (gD (List.replicate lots.length none)), .no, .no, .no, .no, .no, .no], s) := by
    refine q_assign (r_bin (r_lst (r_es1 r_none) (show 1 ≤ lim by decide)) (r_bf1t (r_idx (r_var rfl) (r_int 1) rfl) (?_ : bf .len [.tuple (lots.map rowD)] = some (.int (lots.length : Int))) rfl) b0) rfl
    show some (PyData.int ((lots.map rowD).length : Nat)) = _
    rw [List.length_map]
  obtain ⟨σ', e, g, x7, rfl, hg, h1, h2, hf⟩ := exs_forI (call := callN Γ0 (n + 2)) (fuel := fuelW) (t := .name 3) (it := .over (.var 1)) (keep := [0, 2, 7]) (body := thingS) (σ := [.frz (memD m lots), .frz (rowD lot), .own (gD (List.replicate lots.length none)), .no, .no, .no, .no, .no, .no]) (s := s) (s1 := s) PyData.int lot
    (fun j σ => ∃ g x7, σ = [.frz (memD m lots), .no, .own (gD g), .no, .no, .no, .no, x7, .no] ∧ Giv lots g ∧ (∀ y, has g y → y ∈ lot.take j) ∧ (∀ t ∈ lot.take j, has g t ∨ Short lots g t) ∧ ∀ y, has g y ↔ y ∈ firstG lots (lot.take j)) rfl (r_overT (r_var rfl)) ⟨_, .no, rfl, giv_none lots, fun y ⟨k, hk⟩ => (by
      rw [List.getElem?_replicate] at hk
      split at hk <;> cases hk), fun t ht => absurd ht (by simp), fun y => ⟨fun ⟨k, hk⟩ => (by
      rw [List.getElem?_replicate] at hk
      split at hk <;> cases hk), fun h => absurd h (by simp [firstG])⟩⟩ (by
      rintro j t σ hj ⟨g, x7, rfl, hg, h1, h2, hf⟩
      have nt : ¬ has g t := fun h => by
        obtain ⟨i, hi⟩ := List.mem_iff_getElem?.mp (h1 t h)
        rw [List.getElem?_take] at hi
        split at hi
        · rename_i hlt
          have := row_inj nd hi hj
          omega
        · cases hi
      obtain ⟨g', x7', σ2, e1, e2, hg', alt⟩ := thing_run n m lots g t .no .no .no .no x7 .no s hg nt hl hll
      refine ⟨_, σ2, rfl, e1, g', x7', e2, hg', fun y hy => ?_, fun z hz => ?_, fun y => ?_⟩
      · rw [List.take_add_one, hj, List.mem_append]
        rcases alt with up | ⟨rfl, _⟩
        · rcases (up y).mp hy with hy | rfl
          · exact .inl (h1 y hy)
          · exact .inr (.head _)
        · exact .inl (h1 y hy)
      · rw [List.take_add_one, hj, List.mem_append] at hz
        rcases alt with up | ⟨rfl, sh⟩
        · rcases hz with hz | hz
          · exact (h2 z hz).imp (fun h => (up z).mpr (.inl h)) fun h => short_up h fun y hy => (up y).mpr (.inl hy)
          · rw [List.mem_singleton.mp hz]
            exact .inl ((up t).mpr (.inr rfl))
        · rcases hz with hz | hz
          · exact h2 z hz
          · rw [List.mem_singleton.mp hz]
            exact .inr sh
      · rw [List.take_add_one, hj, show (some t).toList = [t] from rfl, firstG_snoc]
        rcases alt with up | ⟨rfl, sh⟩
        · rw [if_pos (hg'.given fun z hz => (up z).mpr ((List.mem_append.mp hz).imp (fun h => (hf z).mpr h) fun h => List.mem_singleton.mp h)), List.mem_append, List.mem_singleton, ← hf y]
          exact up y
        · rw [if_neg (short_not sh fun z hz => (hf z).mp hz)]
          exact hf y)
  rw [List.take_length] at h1 h2 hf
  exact ⟨g, gv (call_def rfl rfl rfl rfl (exs_step s0 (exs_step e (exs_ret (q_ret (r_bf1t (r_var rfl) (show bf .tuple [gD g] = some (.tuple (g.map optD)) from rfl) rfl)))))), hg, h1, h2, hf⟩
end Mp.Z0

/-! M4: ranks; exchange. -/
namespace Mp
open PySem
theorem short_few {lots : List (List Int)} {g : Gv} {t : Int} (h : Short lots g t) : Few lots g t := by
  obtain ⟨X, a, b, c, d, _⟩ := h
  exact ⟨X, a, b, c, d⟩
theorem great_given {lots : List (List Int)} {lot : List Int} {g : Gv} (h : Great lots lot g) : (∀ t ∈ lot, has g t) ↔ Given lots lot := by
  refine ⟨fun q => h.giv.given q, fun q t ht => (h.max t ht).resolve_right ?_⟩
  rintro ⟨X, a, b, c, d, _⟩
  have := hall_easy (q.sub fun x hx => (c x hx).elim (fun e => e ▸ ht) (h.sub x)) a
  omega
theorem things_len {lots : List (List Int)} {lot : List Int} {g : Gv} (h : Great lots lot g) (nd : lot.Nodup) : (things g).length = lot.length ↔ Given lots lot := by
  rw [← great_given h]
  have n1 := things_nodup h.giv.inj
  constructor
  · intro e t ht
    exact mem_things.mp (pigeon n1 (fun x hx => h.sub x (mem_things.mp hx)) (by omega) t ht)
  · intro q
    have h1 := nd.length_le_of_subset fun x hx => mem_things.mpr (q x hx)
    have h2 := n1.length_le_of_subset fun x hx => h.sub x (mem_things.mp hx)
    omega
theorem great_most {lots : List (List Int)} {lot w : List Int} {g : Gv} (h : Great lots lot g) (nd : w.Nodup) (hw : ∀ x ∈ w, x ∈ lot) (hg : Given lots w) : w.length ≤ (things g).length :=
  few_most h.giv nd hg fun x hx => (h.max x (hw x hx)).imp id short_few
/-- the law of the few -/
theorem few_given {m : Nat} {lots : List (List Int)} {lot : List Int} (hl : LotIn m lot) {g : Gv} (h : Great lots lot g) : Given lots lot ↔ ∀ part, LotIn m part → (nb lots part).length < part.length → ¬ ∀ x ∈ part, x ∈ lot := by
  constructor
  · intro q part hp hn hs
    have := hall_easy (q.sub hs) hp.nodup
    omega
  · intro q
    refine (great_given h).mp fun t ht => (h.max t ht).resolve_right ?_
    rintro ⟨X, a, b, c, d, _⟩
    have sub : ∀ x ∈ X, x ∈ lot := fun x hx => (c x hx).elim (fun e => e ▸ ht) (h.sub x)
    have mm : ∀ x, x ∈ sortI X ↔ x ∈ X := fun x => (sortI_perm X).mem_iff
    refine q (sortI X) (sortI_lot a fun x hx => hl.2 x (sub x hx)) ?_ fun x hx => sub x ((mm x).mp hx)
    rw [nb_congr mm, (sortI_perm X).length_eq]
    exact d
theorem aug_exists {lots : List (List Int)} {g : Gv} {t : Int} (hg : Giv lots g) (ht : ¬ has g t) (hl : lots.length ≤ 1000) (hll : ∀ l ∈ lots, l.length ≤ 1000) : (∃ g', Giv lots g' ∧ ∀ y, has g' y ↔ has g y ∨ y = t) ∨ Short lots g t := by
  obtain ⟨g', _, _, _, _, h1, h2⟩ := Z0.thing_run 0 0 lots g t .no .no .no .no .no .no (srcOf []) hg ht hl hll
  rcases h2 with h2 | ⟨_, h2⟩
  · exact .inl ⟨g', h1, h2⟩
  · exact .inr h2
theorem exchange {lots : List (List Int)} {one other : List Int} (n1 : one.Nodup) (n2 : other.Nodup) (g1 : Given lots one) (g2 : Given lots other) (hlt : one.length < other.length) (hl : lots.length ≤ 1000) (hll : ∀ l ∈ lots, l.length ≤ 1000) :
    ∃ x ∈ other, x ∉ one ∧ Given lots (one ++ [x]) := Classical.byContradiction fun no => by
  obtain ⟨g, _, gr⟩ := Z0.great_ok 0 0 lots one (srcOf []) n1 hl hll
  have all := (great_given gr).mpr g1
  have e1 := (things_len gr n1).mpr g1
  have := few_most gr.giv n2 g2 fun x hx => by
    by_cases h : x ∈ one
    · exact .inl (all x h)
    · refine .inr ?_
      rcases aug_exists (t := x) gr.giv (fun z => h (gr.sub x z)) hl hll with ⟨g', h1, h2⟩ | h1
      · refine absurd ⟨x, hx, h, h1.given fun y hy => (h2 y).mpr ?_⟩ no
        rcases List.mem_append.mp hy with hy | hy
        · exact .inl (all y hy)
        · exact .inr (List.mem_singleton.mp hy)
      · exact short_few h1
  omega
end Mp

/-! K7: dicts of lots. -/
namespace Mp
open PySem
def ksL (ks : List (List Int)) : List (D × D) := ks.map fun w => (rowD w, .int 0)
def ksD (ks : List (List Int)) : D := .dict (ksL ks)
def kput (ks : List (List Int)) (w : List Int) : List (List Int) := if w ∈ ks then ks else ks ++ [w]
theorem ksL_kv (ks : List (List Int)) : ksL ks = kvD rowD (ks.map fun w => (w, PyData.int 0)) := by
  unfold ksL kvD
  rw [List.map_map]
  rfl
theorem keys_fst (ks : List (List Int)) : (ks.map fun w => (w, PyData.int 0)).map (·.1) = ks := by
  rw [List.map_map]
  exact List.map_id _
theorem keyOk_row (a : List Int) : keyOk (rowD a) = true := by
  show (a.map PyData.int).all flatKey = true
  rw [List.all_map]
  exact List.all_eq_true.mpr fun _ _ => rfl
theorem ks_fits (ks : List (List Int)) (w : List Int) : keyFits (ksL ks) (rowD w) = true := by
  rw [ksL_kv]
  exact keyFits_map (φ := rowD) true keyOk_row (fun _ => rfl) _ _
theorem ks_put (ks : List (List Int)) (w : List Int) : dput (ksL ks) (rowD w) (.int 0) = ksL (kput ks w) := by
  rw [ksL_kv, dput_map eqv_row, ksL_kv]
  unfold mput kput
  rw [keys_fst]
  congr 1
  by_cases h : w ∈ ks
  · rw [if_pos h, if_pos h, List.map_map]
    refine List.map_congr_left fun v _ => ?_
    show (if v = w then (v, PyData.int 0) else (v, PyData.int 0)) = (v, PyData.int 0)
    split <;> rfl
  · rw [if_neg h, if_neg h, List.map_append]
    rfl
theorem in_ks (ks : List (List Int)) (w : List Int) : cop .isin (rowD w) (ksD ks) = some (decide (w ∈ ks)) := by
  show (if keyFits (ksL ks) (rowD w) then some (dhas (ksL ks) (rowD w)) else none) = _
  rw [ks_fits, ksL_kv, dhas_map eqv_row, keys_fst]
  simp
theorem mem_kput {ks : List (List Int)} {w v : List Int} : v ∈ kput ks w ↔ v ∈ ks ∨ v = w := by
  unfold kput
  split
  · exact ⟨.inl, fun h => h.elim id fun e => e ▸ by assumption⟩
  · rw [List.mem_append, List.mem_singleton]
structure KO (m : Nat) (ks : List (List Int)) : Prop where
  nd : ks.Nodup
  lot : ∀ w ∈ ks, LotIn m w
theorem KO.put {m : Nat} {ks : List (List Int)} {w : List Int} (h : KO m ks) (hw : LotIn m w) : KO m (kput ks w) := by
  refine ⟨?_, fun v hv => (mem_kput.mp hv).elim (h.lot v) fun e => e ▸ hw⟩
  unfold kput
  split
  · exact h.nd
  · exact nodup_snoc h.nd (by assumption)
theorem KO.len {m : Nat} {ks : List (List Int)} (h : KO m ks) (hm : m ≤ 7) : ks.length ≤ 128 := by
  have := h.nd.length_le_of_subset (l₂ := lotsAll m) fun w hw => mem_lotsAll.mpr (h.lot w hw)
  rw [lotsAll_len] at this
  have h2 := Nat.pow_le_pow_right (n := 2) (by omega) hm
  have e7 : (2 : Nat) ^ 7 = 128 := by decide
  omega
theorem ksL_len (ks : List (List Int)) : (ksL ks).length = ks.length := by unfold ksL; rw [List.length_map]
theorem hash7 : ((lotsAll 7).map thash).Nodup := by decide +kernel
theorem nodup_inj {α β : Type} {f : α → β} : ∀ {l : List α}, (l.map f).Nodup → ∀ x ∈ l, ∀ y ∈ l, f x = f y → x = y
  | [], _, x, hx, _, _, _ => absurd hx (by simp)
  | a :: l, h, x, hx, y, hy, e => by
    rw [List.map_cons, List.nodup_cons] at h
    rcases List.mem_cons.mp hx with p | p <;> rcases List.mem_cons.mp hy with q | q
    · exact p.trans q.symm
    · exact (h.1 (List.mem_map.mpr ⟨y, q, by rw [← e, p]⟩)).elim
    · exact (h.1 (List.mem_map.mpr ⟨x, p, by rw [e, q]⟩)).elim
    · exact nodup_inj h.2 x p y q e
theorem KO.hash {m : Nat} {ks : List (List Int)} (h : KO m ks) (hm : m ≤ 7) : hashOk (ksL ks) = true := by
  have e1 : ∀ w : List Int, asInts (w.map .int) = some w := by
    intro w
    induction w with
    | nil => rfl
    | cons x w ih =>
      show (asInts (w.map .int)).map (x :: ·) = _
      rw [ih]
      rfl
  have e2 : ∀ ks : List (List Int), rowsOf (ksL ks) = some ks := by
    intro ks
    induction ks with
    | nil => rfl
    | cons w ks ih =>
      show (asInts (w.map .int)).bind (fun ns => (rowsOf (ksL ks)).map (ns :: ·)) = _
      rw [ih, e1]
      rfl
  unfold hashOk
  rw [e2]
  have m7 : ∀ w ∈ ks, w ∈ lotsAll 7 := fun w hw => mem_lotsAll.mpr ⟨(h.lot w hw).1, fun x hx => by have := (h.lot w hw).2 x hx; omega⟩
  exact decide_eq_true (map_nodup thash h.nd fun x hx y hy e => nodup_inj hash7 x (m7 x hx) y (m7 y hy) e)
theorem bf_dict_ks {m : Nat} {ks : List (List Int)} (h : KO m ks) (hm : m ≤ 7) (h0 : ks ≠ []) : bf .dict [ksD ks] = some (ksD ks) := by
  show (if ((ksL ks).all (fun p => !isTupKey p.1) || hashOk (ksL ks)) && !(ksL ks).isEmpty then some (PyData.dict (ksL ks)) else none) = _
  rw [h.hash hm, Bool.or_true, Bool.true_and]
  cases ks with
  | nil => exact absurd rfl h0
  | cons w ks => rfl
theorem bf_sorted_row (a : List Int) (h : a.length ≤ lim) : bf .sorted [rowD a] = some (.list ((sortI a).map .int)) := by
  show (sortD (a.map PyData.int)).map PyData.list = _
  rw [sortD_ints a h]
  rfl
theorem asc_unique : ∀ {a b : List Int}, a.Pairwise (· < ·) → b.Pairwise (· < ·) → (∀ x, x ∈ a ↔ x ∈ b) → a = b
  | [], [], _, _, _ => rfl
  | [], y :: b, _, _, h => absurd ((h y).mpr (.head _)) (by simp)
  | x :: a, [], _, _, h => absurd ((h x).mp (.head _)) (by simp)
  | x :: a, y :: b, h1, h2, h => by
    rw [List.pairwise_cons] at h1 h2
    have e : x = y := by
      rcases List.mem_cons.mp ((h x).mp (.head _)) with e | hx
      · exact e
      · rcases List.mem_cons.mp ((h y).mpr (.head _)) with e | hy
        · exact e.symm
        · have := h1.1 y hy
          have := h2.1 x hx
          omega
    subst e
    refine congrArg _ (asc_unique h1.2 h2.2 fun z => ⟨fun hz => ?_, fun hz => ?_⟩)
    · rcases List.mem_cons.mp ((h z).mp (.tail _ hz)) with rfl | q
      · have := h1.1 z hz; omega
      · exact q
    · rcases List.mem_cons.mp ((h z).mpr (.tail _ hz)) with rfl | q
      · have := h2.1 z hz; omega
      · exact q
theorem LotIn.len {m : Nat} {w : List Int} (h : LotIn m w) : w.length ≤ m := by
  have := h.nodup.length_le_of_subset (l₂ := upto m) fun x hx => mem_upto.mpr (h.2 x hx)
  rwa [upto_len] at this
theorem lot_add {m : Nat} {w : List Int} {x : Int} (h : LotIn m w) (hx : 0 ≤ x ∧ x < m) (hn : x ∉ w) : LotIn m (sortI (w ++ [x])) := sortI_lot (nodup_snoc h.nodup hn) fun y hy => by
  rcases List.mem_append.mp hy with hy | hy
  · exact h.2 y hy
  · rw [List.mem_singleton.mp hy]; exact hx

end Mp

set_option maxHeartbeats 4000000
/-! M5: bases; a member widened tells the same bases exactly if the thing is in the span of the rest system. -/
namespace Mp
open PySem
/-- a full giving's lot -/
structure Full (m : Nat) (lots : List (List Int)) (b : List Int) : Prop where
  lot : LotIn m b
  giv : Given lots b
  len : b.length = lots.length
theorem extend {lots : List (List Int)} (hl : lots.length ≤ 1000) (hll : ∀ l ∈ lots, l.length ≤ 1000) {b : List Int} (nb : b.Nodup) (gb : Given lots b) : ∀ (n : Nat) (I : List Int), b.length = I.length + n → I.Nodup → Given lots I →
    ∃ b2 : List Int, b2.Nodup ∧ Given lots b2 ∧ b2.length = b.length ∧ (∀ y ∈ I, y ∈ b2) ∧ ∀ y ∈ b2, y ∈ I ∨ y ∈ b
  | 0, I, e, nI, gI => ⟨I, nI, gI, by omega, fun y h => h, fun y h => .inl h⟩
  | n + 1, I, e, nI, gI => by
    obtain ⟨z, h1, h2, h3⟩ := exchange nI nb gI gb (by omega) hl hll
    obtain ⟨b2, q1, q2, q3, q4, q5⟩ := extend hl hll nb gb n (I ++ [z]) (by rw [List.length_append, List.length_singleton]; omega) (nodup_snoc nI h2) h3
    refine ⟨b2, q1, q2, q3, fun y hy => q4 y (List.mem_append_left _ hy), fun y hy => ?_⟩
    rcases q5 y hy with h | h
    · rcases List.mem_append.mp h with h | h
      · exact .inl h
      · rw [List.mem_singleton.mp h]; exact .inr h1
    · exact .inr h
theorem given_most {lots : List (List Int)} {w : List Int} (nd : w.Nodup) (h : Given lots w) : w.length ≤ lots.length := by
  obtain ⟨f, h1, h2⟩ := h
  have := (map_nodup f nd h2).length_le_of_subset (l₂ := List.range lots.length) fun k hk => by
    obtain ⟨x, hx, rfl⟩ := List.mem_map.mp hk
    exact List.mem_range.mpr (meet_lt (h1 x hx))
  rwa [List.length_map, List.length_range] at this
/-- lots that are not given have a part that too few members meet -/
theorem not_given {lots : List (List Int)} {w : List Int} (nd : w.Nodup) (hl : lots.length ≤ 1000) (hll : ∀ l ∈ lots, l.length ≤ 1000) (h : ¬ Given lots w) : ∃ C : List Int, C.Nodup ∧ (∀ y ∈ C, y ∈ w) ∧ (nb lots C).length < C.length := by
  obtain ⟨g, _, gr⟩ := Z0.great_ok 0 0 lots w (srcOf []) nd hl hll
  refine Classical.byContradiction fun no => h ((great_given gr).mp fun t ht => (gr.max t ht).resolve_right ?_)
  rintro ⟨X, a, b, c, d, _⟩
  exact no ⟨X, a, fun y hy => (c y hy).elim (fun e => e ▸ ht) (gr.sub y), d⟩
section
variable {m k : Nat} {lots lots' : List (List Int)} {A A' : List Int} {x : Int}
/-- lots' is lots, the k-th member widened by x -/
structure Wid (m k : Nat) (lots lots' : List (List Int)) (A : List Int) (x : Int) : Prop where
  len : lots'.length = lots.length
  at_ : lots[k]? = some A
  off : x ∉ A
  rg : 0 ≤ x ∧ x < m
  meet : ∀ y j, meet lots' y j ↔ meet lots y j ∨ (y = x ∧ j = k)
theorem Wid.up (h : Wid m k lots lots' A x) {w : List Int} (g : Given lots w) : Given lots' w := by
  obtain ⟨f, h1, h2⟩ := g
  exact ⟨f, fun y hy => (h.meet y (f y)).mpr (.inl (h1 y hy)), h2⟩
theorem Wid.meetA (h : Wid m k lots lots' A x) {y : Int} : Mp.meet lots y k ↔ y ∈ A := by
  rw [meet_iff]
  constructor
  · rintro ⟨l, h1, h2⟩
    rw [h.at_] at h1
    cases h1
    exact h2
  · intro hy
    exact ⟨A, h.at_, hy⟩
/-- a lot that only the widened members give -/
theorem Wid.new (h : Wid m k lots lots' A x) (hl : lots.length ≤ 1000) (hll : ∀ l ∈ lots, l.length ≤ 1000) {X : List Int} (nd : X.Nodup) (g' : Given lots' X) (ng : ¬ Given lots X) : ∃ C : List Int, C.Nodup ∧ x ∈ C ∧ (∀ y ∈ C, y ∉ A) ∧ ¬ Given lots C ∧ Given lots (C.erase x) ∧ ∀ y ∈ C, y ∈ X := by
  obtain ⟨C, c1, c2, c3⟩ := not_given nd hl hll ng
  have g'C : Given lots' C := g'.sub c2
  have hh := hall_easy g'C c1
  have key : x ∈ C ∧ ∀ y ∈ C, y ∉ A := by
    refine Classical.byContradiction fun no => ?_
    have : (nb lots' C).length ≤ (nb lots C).length := (nb_nodup lots' C).length_le_of_subset fun j hj => by
      obtain ⟨y, hy, hm⟩ := mem_nb.mp hj
      rcases (h.meet y j).mp hm with q | ⟨rfl, rfl⟩
      · exact mem_nb.mpr ⟨y, hy, q⟩
      · obtain ⟨z, hz, hA⟩ : ∃ z ∈ C, z ∈ A := Classical.byContradiction fun no2 => no ⟨hy, fun z hz hA => no2 ⟨z, hz, hA⟩⟩
        exact mem_nb.mpr ⟨z, hz, h.meetA.mpr hA⟩
    omega
  refine ⟨C, c1, key.1, key.2, fun q => by have := hall_easy q c1; omega, ?_, c2⟩
  obtain ⟨f, f1, f2⟩ := g'C
  have fx : f x = k := Classical.byContradiction fun no => by
    have : Given lots C := ⟨f, fun y hy => ((h.meet y (f y)).mp (f1 y hy)).elim id fun ⟨e1, e2⟩ => absurd (e1 ▸ e2) no, f2⟩
    have := hall_easy this c1
    omega
  have me : ∀ y, y ∈ C.erase x → y ≠ x ∧ y ∈ C := fun y hy => (List.Nodup.mem_erase_iff c1).mp hy
  refine ⟨f, fun y hy => ((h.meet y (f y)).mp (f1 y (me y hy).2)).elim id fun ⟨e1, _⟩ => absurd e1 (me y hy).1, fun y hy z hz e => f2 y (me y hy).2 z (me z hz).2 e⟩
theorem cut_le {b b2 : List Int} (nd : b2.Nodup) (h : ∀ y ∈ b2, y ∈ A → y ∈ b) : cut A b2 ≤ cut A b := by
  unfold cut
  refine List.Nodup.length_le_of_subset (nd.filter _) (l₂ := b.filter fun y => decide (y ∈ A)) fun y hy => ?_
  obtain ⟨h1, h2⟩ := List.mem_filter.mp hy
  exact List.mem_filter.mpr ⟨h y h1 (of_decide_eq_true h2), h2⟩
theorem cut_lt {b b2 : List Int} (nd : b2.Nodup) (h : ∀ y ∈ b2, y ∈ A → y ∈ b) {z : Int} (zb : z ∈ b) (zA : z ∈ A) (z2 : z ∉ b2) : cut A b2 < cut A b := by
  unfold cut
  have : (z :: b2.filter fun y => decide (y ∈ A)).length ≤ (b.filter fun y => decide (y ∈ A)).length := List.Nodup.length_le_of_subset (List.nodup_cons.mpr ⟨fun q => z2 (List.mem_filter.mp q).1, nd.filter _⟩) (l₂ := b.filter fun y => decide (y ∈ A)) fun y hy => by
    rcases List.mem_cons.mp hy with rfl | hy
    · exact List.mem_filter.mpr ⟨zb, decide_eq_true zA⟩
    · obtain ⟨h1, h2⟩ := List.mem_filter.mp hy
      exact List.mem_filter.mpr ⟨h y h1 (of_decide_eq_true h2), h2⟩
  rw [List.length_cons] at this
  omega
theorem full_sort {w : List Int} (nd : w.Nodup) (hr : ∀ y ∈ w, 0 ≤ y ∧ y < m) (g : Given lots w) (hl : w.length = lots.length) : Full m lots (sortI w) :=
  ⟨sortI_lot nd hr, (given_congr fun y => (sortI_perm w).mem_iff).mpr g, by rw [(sortI_perm w).length_eq, hl]⟩
theorem widened (h : Wid m k lots lots' A x) (hl : lots.length ≤ 1000) (hll : ∀ l ∈ lots, l.length ≤ 1000) (whole : ∃ b, Full m lots b) :
    (∀ b, Full m lots b → (∀ b', Full m lots b' → cut A b ≤ cut A b') → x ∈ b) ↔ ∀ w, Full m lots' w ↔ Full m lots w := by
  constructor
  · intro S w
    refine ⟨fun q => ?_, fun q => ⟨q.lot, h.up q.giv, q.len.trans h.len.symm⟩⟩
    refine Classical.byContradiction fun no => ?_
    have ng : ¬ Given lots w := fun g => no ⟨q.lot, g, q.len.trans h.len⟩
    obtain ⟨C, c1, c2, c3, c4, c5, c6⟩ := h.new hl hll q.lot.nodup q.giv ng
    -- a base that has least of A
    obtain ⟨b, hb, hmin⟩ : ∃ b, Full m lots b ∧ ∀ b', Full m lots b' → cut A b ≤ cut A b' := by
      obtain ⟨b0, hb0⟩ := whole
      have : ∀ (n : Nat) (b : List Int), Full m lots b → cut A b ≤ n → ∃ b, Full m lots b ∧ ∀ b', Full m lots b' → cut A b ≤ cut A b' := by
        intro n
        induction n with
        | zero => exact fun b hb hn => ⟨b, hb, fun b' _ => by omega⟩
        | succ n ih =>
          intro b hb hn
          by_cases e : ∃ b', Full m lots b' ∧ cut A b' ≤ n
          · obtain ⟨b', h1, h2⟩ := e
            exact ih b' h1 h2
          · refine ⟨b, hb, fun b' hb' => Classical.byContradiction fun no => e ⟨b', hb', by omega⟩⟩
      exact this _ b0 hb0 (Nat.le_refl _)
    have xb := S b hb hmin
    have me : ∀ y, y ∈ C.erase x ↔ y ≠ x ∧ y ∈ C := fun y => List.Nodup.mem_erase_iff c1
    have nE : (C.erase x).Nodup := c1.erase x
    have le : (C.erase x).length ≤ b.length := by rw [hb.len]; exact given_most nE c5
    obtain ⟨b2, q1, q2, q3, q4, q5⟩ := extend hl hll hb.lot.nodup hb.giv (b.length - (C.erase x).length) (C.erase x) (by omega) nE c5
    have xn : x ∉ b2 := fun hx => c4 (q2.sub fun y hy => by
      by_cases e : y = x
      · rw [e]; exact hx
      · exact q4 y ((me y).mpr ⟨e, hy⟩))
    have rg2 : ∀ y ∈ b2, 0 ≤ y ∧ y < m := fun y hy => (q5 y hy).elim (fun z => q.lot.2 y (c6 y ((me y).mp z).2)) fun z => hb.lot.2 y z
    have F2 := full_sort (m := m) q1 rg2 q2 (q3.trans hb.len)
    have ms : ∀ y, y ∈ sortI b2 ↔ y ∈ b2 := fun y => (sortI_perm b2).mem_iff
    have le2 : cut A (sortI b2) ≤ cut A b := cut_le F2.lot.nodup fun y hy hA => (q5 y ((ms y).mp hy)).elim (fun z => absurd hA (c3 y ((me y).mp z).2)) id
    exact xn ((ms x).mp (S _ F2 fun b' hb' => Nat.le_trans le2 (hmin b' hb')))
  · intro E b hb hmin
    refine Classical.byContradiction fun xb => ?_
    obtain ⟨f, f1, f2⟩ := hb.giv
    obtain ⟨y, hy, e⟩ : ∃ y ∈ b, f y = k := by
      have kl : k < lots.length := (List.getElem?_eq_some_iff.mp h.at_).1
      have := pigeon (map_nodup f hb.lot.nodup f2) (b := List.range lots.length) (fun j hj => by
        obtain ⟨z, hz, rfl⟩ := List.mem_map.mp hj
        exact List.mem_range.mpr (meet_lt (f1 z hz))) (by rw [List.length_map, List.length_range, hb.len]; exact Nat.le_refl _) k (List.mem_range.mpr kl)
      obtain ⟨y, hy, e⟩ := List.mem_map.mp this
      exact ⟨y, hy, e⟩
    have yA : y ∈ A := h.meetA.mp (e ▸ f1 y hy)
    have me : ∀ z, z ∈ b.erase y ↔ z ≠ y ∧ z ∈ b := fun z => List.Nodup.mem_erase_iff hb.lot.nodup
    have nd2 : (b.erase y ++ [x]).Nodup := nodup_snoc (hb.lot.nodup.erase y) fun q => xb ((me x).mp q).2
    have mm : ∀ z, z ∈ b.erase y ++ [x] ↔ (z ≠ y ∧ z ∈ b) ∨ z = x := fun z => by rw [List.mem_append, me, List.mem_singleton]
    have g2 : Given lots' (b.erase y ++ [x]) := by
      refine ⟨fun z => if z = x then k else f z, fun z hz => ?_, fun z hz z' hz' e' => ?_⟩
      · show Mp.meet lots' z (if z = x then k else f z)
        by_cases ez : z = x
        · rw [if_pos ez]
          exact (h.meet z k).mpr (.inr ⟨ez, rfl⟩)
        · rw [if_neg ez]
          exact (h.meet z (f z)).mpr (.inl (f1 z (((mm z).mp hz).resolve_right ez).2))
      · have nk : ∀ z, z ∈ b.erase y ++ [x] → z ≠ x → f z ≠ k := fun z hz ez q => by
          have := ((mm z).mp hz).resolve_right ez
          exact this.1 (f2 z this.2 y hy (q.trans e.symm))
        by_cases ez : z = x
        · by_cases ez' : z' = x
          · exact ez.trans ez'.symm
          · simp only [if_pos ez, if_neg ez'] at e'
            exact absurd e'.symm (nk z' hz' ez')
        · by_cases ez' : z' = x
          · simp only [if_neg ez, if_pos ez'] at e'
            exact absurd e' (nk z hz ez)
          · simp only [if_neg ez, if_neg ez'] at e'
            exact f2 z (((mm z).mp hz).resolve_right ez).2 z' (((mm z').mp hz').resolve_right ez').2 e'
    have len2 : (b.erase y ++ [x]).length = lots'.length := by
      have := List.length_pos_of_mem hy
      rw [List.length_append, List.length_singleton, List.length_erase_of_mem hy, h.len, ← hb.len]
      omega
    have F2 : Full m lots (sortI (b.erase y ++ [x])) := (E _).mp (full_sort nd2 (fun z hz => ((mm z).mp hz).elim (fun q => hb.lot.2 z q.2) fun q => q ▸ h.rg) g2 len2)
    have ms : ∀ z, z ∈ sortI (b.erase y ++ [x]) ↔ (z ≠ y ∧ z ∈ b) ∨ z = x := fun z => (sortI_perm _).mem_iff.trans (mm z)
    have := hmin _ F2
    have lt := cut_lt (A := A) (b := b) F2.lot.nodup (fun z hz zA => ((ms z).mp hz).elim (fun q => q.2) fun q => absurd (q ▸ zA) h.off) hy yA fun q => ((ms y).mp q).elim (fun q => q.1 rfl) fun q => h.off (q ▸ yA)
    omega
end
end Mp

/-! R3: draws. -/
namespace Mp
open PySem

theorem draw_lt0 (s : Src) (m : Int) : 0 ≤ (pick s m).1 ∧ (pick s m).1 < max 1 m := by
  unfold pick
  simp only
  split
  · split
    · exact ⟨Int.emod_nonneg _ (by omega), Int.emod_lt_of_pos _ (by omega)⟩
    · rename_i h
      have : 2 ≤ m := by omega
      exact ⟨Int.emod_nonneg _ (by omega), by have := Int.emod_lt_of_pos (a := (((s.mixed + (s.turn + 1) * 104729) % 998244353 * ((s.mixed + (s.turn + 1) * 104729) % 998244353) + (s.turn + 1) * 17) % 2147483647 / 16)) (show 0 < m by omega); omega⟩
  · split
    · exact ⟨Int.emod_nonneg _ (by omega), Int.emod_lt_of_pos _ (by omega)⟩
    · rename_i h
      have : 2 ≤ m := by omega
      exact ⟨Int.emod_nonneg _ (by omega), by have := Int.emod_lt_of_pos (a := (((s.mixed + (s.turn + 1) * 104729) % 998244353 * ((s.mixed + (s.turn + 1) * 104729) % 998244353) + (s.turn + 1) * 17) % 2147483647 / 16)) (show 0 < m by omega); omega⟩

theorem draw_lt (s : Src) (m : Int) (hm : 1 ≤ m) : 0 ≤ (pick s m).1 ∧ (pick s m).1 < m := by
  have := draw_lt0 s m
  omega
theorem pick_call (k : Nat) (s : Src) (m : Int) (hm : 1 ≤ m) (hm2 : m < 1073741824) : ∃ (x : Int) (s' : Src), callN Γ (k + 1) "_law_pick" true [.int m] s = some (.int x, s') ∧ 0 ≤ x ∧ x < m := by
  refine ⟨(pick s m).1, (pick s m).2, ?_, draw_lt s m hm⟩
  have h : pickOk m = true := by
    unfold pickOk
    exact decide_eq_true ⟨by omega, hm2⟩
  show (if pickOk m then (fun s => some (PyData.int (pick s m).1, (pick s m).2)) else stuck) s = _
  rw [if_pos h]

theorem taken_perm : ∀ (xs : List D) (i : Nat) (h : i < xs.length), (xs[i] :: xs.eraseIdx i).Perm xs
  | [], i, h => absurd h (Nat.not_lt_zero _)
  | x :: xs, 0, _ => List.Perm.refl _
  | x :: xs, i + 1, h => by
    have h2 : i < xs.length := Nat.lt_of_succ_lt_succ h
    show (xs[i] :: x :: xs.eraseIdx i).Perm (x :: xs)
    exact (List.Perm.swap _ _ _).trans ((taken_perm xs i h2).cons x)
theorem mixed_perm : ∀ (n : Nat) (xs acc : List D) (s : Src), xs.length = n → ∃ ys s', mixed n xs acc s = some (ys, s') ∧ ys.Perm (acc ++ xs)
  | 0, xs, acc, s, h => ⟨acc, s, rfl, by rw [List.length_eq_zero_iff.mp h, List.append_nil]⟩
  | n + 1, xs, acc, s, h => by
    obtain ⟨q0, q1⟩ := draw_lt s (xs.length : Nat) (by omega)
    have hlt : (pick s (xs.length : Nat)).1.toNat < xs.length := by omega
    obtain ⟨ys, s', e, p⟩ := mixed_perm n (xs.eraseIdx (pick s (xs.length : Nat)).1.toNat) (acc ++ [xs[(pick s (xs.length : Nat)).1.toNat]]) (pick s (xs.length : Nat)).2 (by rw [List.length_eraseIdx_of_lt hlt]; omega)
    refine ⟨ys, s', ?_, p.trans ?_⟩
    · show (match xs[(pick s (xs.length : Nat)).1.toNat]? with | none => none | some d => mixed n (xs.eraseIdx (pick s (xs.length : Nat)).1.toNat) (acc ++ [d]) (pick s (xs.length : Nat)).2) = _
      rw [List.getElem?_eq_getElem hlt]
      exact e
    · rw [List.append_assoc]
      exact List.Perm.append_left _ (taken_perm xs _ hlt)
theorem mixed_call (k : Nat) (xs : List D) (s : Src) (h : xs.length < 1000000) : ∃ ys s', callN Γ (k + 2) "_law_mixed" true [.list xs] s = some (.list ys, s') ∧ ys.Perm xs := by
  obtain ⟨ys, s', e, p⟩ := mixed_perm xs.length xs [] s rfl
  refine ⟨ys, s', ?_, p⟩
  show (if k + 1 ≠ 0 ∧ xs.length < 1000000 then bnd (mixed xs.length xs []) (fun ys => ret (PyData.list ys)) else stuck) s = _
  rw [if_pos ⟨by omega, h⟩, bnd_eq e]
  rfl
end Mp

/-! R4: what repr is able to show. -/
namespace Mp
open PySem

theorem ok_app {a b : Str} (h1 : PyData.strOk a = true) (h2 : PyData.strOk b = true) : PyData.strOk (a ++ b) = true := by
  unfold PyData.strOk at *
  show (a.cps ++ b.cps).all _ = true
  rw [Array.all_append, h1, h2]
  rfl
theorem ok_join {z : Str} (hz : PyData.strOk z = true) : ∀ (ts : List Str), (∀ t ∈ ts, PyData.strOk t = true) → PyData.strOk (Str.join z ts) = true
  | [], _ => by
    rw [Str.join.eq_1]
    decide +kernel
  | [t], h => h t (.head _)
  | t :: u :: r, h => by
    show PyData.strOk (t ++ z ++ Str.join z (u :: r)) = true
    exact ok_app (ok_app (h t (.head _)) hz) (ok_join hz (u :: r) fun v hv => h v (.tail _ hv))
theorem ok_from : ∀ (ts : List Str) (k : Nat) (acc : Str), PyData.strOk acc = true → (∀ t ∈ ts, PyData.strOk t = true) → PyData.strOk (textFrom k acc ts) = true
  | [], _, _, h, _ => h
  | t :: r, k, acc, h, ht => by
    show PyData.strOk (textFrom (k + 1) (acc ++ (if k > 0 then ", " else "" : String) ++ t) r) = true
    refine ok_from r (k + 1) _ (ok_app (ok_app h ?_) (ht t (.head _))) fun v hv => ht v (.tail _ hv)
    split <;> decide +kernel
theorem ok_list {ts : List Str} (h : ∀ t ∈ ts, PyData.strOk t = true) : PyData.strOk (listText ts) = true := by
  unfold listText
  exact ok_app (ok_from ts 0 _ (by decide +kernel) h) (by decide +kernel)
theorem ok_tuple {ts : List Str} (h : ∀ t ∈ ts, PyData.strOk t = true) : PyData.strOk (tupleText ts) = true := by
  unfold tupleText
  refine ok_app (ok_app (by decide +kernel) (ok_join (by decide +kernel) ts h)) ?_
  split <;> decide +kernel
theorem ok_all : ∀ (ds : List D), (∀ d ∈ ds, PyData.strOk d.shown = true) → ∀ t ∈ PyData.shownAll ds, PyData.strOk t = true
  | [], _, t, ht => by
    unfold PyData.shownAll at ht
    exact absurd ht (by simp)
  | d :: ds, h, t, ht => by
    unfold PyData.shownAll at ht
    rcases List.mem_cons.mp ht with rfl | ht
    · exact h d (.head _)
    · exact ok_all ds (fun d hd => h d (.tail _ hd)) t ht
structure Sh (k wt : Nat) (d : D) : Prop where
  pl : Pl k d
  lf : d.leavesShort 13 = true
  wt : d.weight ≤ wt
  sh : d.showable = true
  ok : PyData.strOk d.shown = true
theorem sh_int {k : Nat} {i : Int} (h : 0 ≤ i ∧ i < 16) : Sh k 4 (.int i) := by
  obtain ⟨n, rfl⟩ : ∃ n : Nat, i = n := ⟨i.toNat, by omega⟩
  have hn : n < 16 := by omega
  have key : ∀ m : Fin 16, (PyData.int (m.val : Int)).leavesShort 13 = true ∧ (PyData.int (m.val : Int)).weight ≤ 4 ∧ (PyData.int (m.val : Int)).showable = true ∧ PyData.strOk (PyData.int (m.val : Int)).shown = true := by decide +kernel
  have := key ⟨n, hn⟩
  exact ⟨pl_int _, this.1, this.2.1, this.2.2.1, this.2.2.2⟩
theorem sh_none {k : Nat} : Sh k 4 .none := ⟨⟨by unfold PyData.canLay0; rfl, by unfold PyData.depth; omega⟩, by decide +kernel, by decide +kernel, by decide +kernel, by decide +kernel⟩
theorem lfAll : ∀ (ds : List D), (∀ d ∈ ds, d.leavesShort 13 = true) → PyData.leavesShortAll 13 ds = true
  | [], _ => by unfold PyData.leavesShortAll; rfl
  | d :: ds, h => by
    unfold PyData.leavesShortAll
    rw [h d (.head _), lfAll ds fun d hd => h d (.tail _ hd)]
    rfl
theorem wtAll {w : Nat} : ∀ (ds : List D), (∀ d ∈ ds, d.weight ≤ w) → PyData.weightAll ds ≤ ds.length * (w + 1)
  | [], _ => by unfold PyData.weightAll; omega
  | d :: ds, h => by
    have h1 := h d (.head _)
    have h2 := wtAll ds fun d hd => h d (.tail _ hd)
    unfold PyData.weightAll
    rw [List.length_cons, Nat.add_mul]
    omega
theorem shAll : ∀ (ds : List D), (∀ d ∈ ds, d.showable = true) → PyData.showableAll ds = true
  | [], _ => by unfold PyData.showableAll; rfl
  | d :: ds, h => by
    unfold PyData.showableAll
    rw [h d (.head _), shAll ds fun d hd => h d (.tail _ hd)]
    rfl
theorem sh_tuple {k w l : Nat} {ds : List D} (h : ∀ d ∈ ds, Sh k w d) (hl : ds.length ≤ l) : Sh (k + 1) (l * (w + 1)) (.tuple ds) :=
  ⟨pl_tuple fun d hd => (h d hd).pl, by unfold PyData.leavesShort; exact lfAll ds fun d hd => (h d hd).lf, by
    unfold PyData.weight
    exact Nat.le_trans (wtAll ds fun d hd => (h d hd).wt) (Nat.mul_le_mul_right _ hl), by
    unfold PyData.showable
    exact shAll ds fun d hd => (h d hd).sh, by
    unfold PyData.shown
    exact ok_tuple (ok_all ds fun d hd => (h d hd).ok)⟩
theorem sh_list {k w l : Nat} {ds : List D} (h : ∀ d ∈ ds, Sh k w d) (hl : ds.length ≤ l) : Sh (k + 1) (l * (w + 1)) (.list ds) :=
  ⟨pl_list fun d hd => (h d hd).pl, by unfold PyData.leavesShort; exact lfAll ds fun d hd => (h d hd).lf, by
    unfold PyData.weight
    exact Nat.le_trans (wtAll ds fun d hd => (h d hd).wt) (Nat.mul_le_mul_right _ hl), by
    unfold PyData.showable
    exact shAll ds fun d hd => (h d hd).sh, by
    unfold PyData.shown
    exact ok_list (ok_all ds fun d hd => (h d hd).ok)⟩
theorem Sh.up {k k' w w' : Nat} {d : D} (h : Sh k w d) (hk : k ≤ k') (hw : w ≤ w') : Sh k' w' d := ⟨⟨h.pl.1, Nat.le_trans h.pl.2 hk⟩, h.lf, Nat.le_trans h.wt hw, h.sh, h.ok⟩
theorem repr_ok {d : D} (h : Sh 60 1000000 d) : bf .repr [d] = some (.str d.shown) := by
  have h1 := PyData.shown_fits (B := 13) (by omega) (by omega) h.lf (by have := h.wt; have e : (2 : Nat) ^ 20 = 1048576 := by decide
                                                                        omega)
  have h2 : d.shown.length ≤ lim := by
    unfold lim
    rw [sizeLine_eq] at h1
    exact h1
  have h3 := PyData.hasDict_of_canLay d h.pl.1
  show (if d.showable && decide (d.depth ≤ 60) && decide (d.shown.length ≤ lim) && !(d.hasDict && hasL d) then some (PyData.str d.shown) else none) = _
  rw [h.sh, decide_eq_true h.pl.2, decide_eq_true h2, h3]
  rfl
theorem sh_row {k : Nat} {w : List Int} (h : ∀ x ∈ w, 0 ≤ x ∧ x < 16) (hl : w.length ≤ 16) : Sh (k + 1) 80 (rowD w) := sh_tuple (l := 16) (w := 4) (fun d hd => by
  obtain ⟨i, hi, rfl⟩ := List.mem_map.mp hd
  exact sh_int (h i hi)) (by rw [List.length_map]; exact hl)
theorem sh_ways {k : Nat} {ws : List (List Int)} (h : ∀ w ∈ ws, (∀ x ∈ w, 0 ≤ x ∧ x < 16) ∧ w.length ≤ 16) (hl : ws.length ≤ 3000) : Sh (k + 2) 243000 (waysD ws) := sh_list (l := 3000) (w := 80) (fun d hd => by
  obtain ⟨w, hw, rfl⟩ := List.mem_map.mp hd
  exact sh_row (h w hw).1 (h w hw).2) (by rw [List.length_map]; exact hl)
theorem ne_shown {d : D} (h : Sh 60 1000000 d) : cop .ne (.str d.shown) (.str d.shown) = some false := by
  have hs : shp (.str d.shown) = true := by
    show (PyData.canLay0 (.str d.shown) && decide ((PyData.str d.shown).depth ≤ 64)) = true
    rw [show PyData.canLay0 (.str d.shown) = PyData.strOk d.shown from by unfold PyData.canLay0; rfl, h.ok]
    unfold PyData.depth
    rfl
  show (if shp (.str d.shown) && shp (.str d.shown) then some (!(PyData.str d.shown).eqv (.str d.shown)) else none) = _
  rw [hs]
  show some (!(d.shown == d.shown)) = _
  rw [beq_self_eq_true]
  rfl
end Mp

/-! R5: comprehensions whose tests draw. -/
namespace Mp
open PySem
theorem comp_invO {f : D → M (Option D)} (P : Nat → List D → Src → Prop) : ∀ (ds : List D) (i : Nat) (acc : List D) (s : Src), (∀ j d acc s, ds[j]? = some d → P (i + j) acc s → (∃ s', f d s = some (none, s') ∧ P (i + j + 1) acc s') ∨ (acc.length < lim ∧ ∃ x s', f d s = some (some x, s') ∧ P (i + j + 1) (acc ++ [x]) s')) → P i acc s →
    ∃ xs s', compLoop f ds acc s = some (xs, s') ∧ P (i + ds.length) xs s'
  | [], i, acc, s, _, p => ⟨acc, s, rfl, p⟩
  | d :: r, i, acc, s, h, p => by
    have rest : ∀ acc s, P (i + 1) acc s → ∃ xs s', compLoop f r acc s = some (xs, s') ∧ P (i + 1 + r.length) xs s' := fun acc s p1 => comp_invO P r (i + 1) acc s (fun j d' acc s hj hp => by
      have := h (j + 1) d' acc s (by simpa using hj) (by rw [show i + (j + 1) = i + 1 + j by omega]; exact hp)
      rw [show i + (j + 1) + 1 = i + 1 + j + 1 by omega] at this
      exact this) p1
    rw [List.length_cons, show i + (r.length + 1) = i + 1 + r.length by omega]
    rcases h 0 d acc s rfl p with ⟨s1, e, p1⟩ | ⟨hlt, x, s1, e, p1⟩
    · obtain ⟨xs, s', e2, p2⟩ := rest acc s1 p1
      refine ⟨xs, s', ?_, p2⟩
      show bnd (f d) _ s = _
      rw [bnd_eq e]
      exact e2
    · obtain ⟨xs, s', e2, p2⟩ := rest (acc ++ [x]) s1 p1
      refine ⟨xs, s', ?_, p2⟩
      show bnd (f d) _ s = _
      rw [bnd_eq e]
      show (if acc.length < lim then compLoop f r (acc ++ [x]) else stuck) s1 = _
      rw [if_pos hlt]
      exact e2
/-- a comprehension whose test draws -/
theorem r_comp_invT {call : Call} {b : Bool} {σ : Ev} {s s1 : Src} {elt c : E} {t : T} {it : I} {own : List Nat} {ds : List D} (P : Nat → List D → Src → Prop) (h1 : evI call true it σ s = some (ds, s1)) (p0 : P 0 [] s1)
    (step : ∀ j d acc s, ds[j]? = some d → P j acc s → acc.length < lim ∧ ∃ σ' q s', bindT t d (wipeE σ own) = some σ' ∧ ev call false c σ' s = some (.bool q, s') ∧ (q = false → P (j + 1) acc s') ∧ (q = true → ∃ x, ev call false elt σ' s' = some (x, s') ∧ P (j + 1) (acc ++ [x]) s')) :
    ∃ xs s', ev call b (.comp elt t it c own) σ s = some (.list xs, s') ∧ P ds.length xs s' := by
  obtain ⟨xs, s', e, p⟩ := comp_invO (f := fun d' => bnd (lft (bindT t d' (wipeE σ own))) fun σ' =>
      bnd (ev call false c σ') fun cd => match cd with
        | .bool ok => if ok then bnd (ev call false elt σ') fun x => ret (some x) else ret Option.none
        | _ => stuck) P ds 0 [] s1 (fun j d acc s hj hp => by
      rw [Nat.zero_add] at hp ⊢
      obtain ⟨hl, σ', q, s', e1, e2, p1, p2⟩ := step j d acc s hj hp
      cases q
      · refine .inl ⟨s', ?_, p1 rfl⟩
        rw [lft_eq e1, bnd_ret]
        show bnd (ev call false c σ') _ s = _
        rw [bnd_eq e2]
        rfl
      · obtain ⟨x, e3, p3⟩ := p2 rfl
        refine .inr ⟨hl, x, s', ?_, p3⟩
        rw [lft_eq e1, bnd_ret]
        show bnd (ev call false c σ') _ s = _
        rw [bnd_eq e2]
        show bnd (ev call false elt σ') _ s' = _
        rw [bnd_eq e3]
        rfl) p0
  refine ⟨xs, s', ?_, by rw [Nat.zero_add] at p; exact p⟩
  unfold ev
  rw [bnd_eq h1]
  exact (bnd_eq e).trans rfl
theorem snoc_ways (ws : List (List Int)) (w : List Int) : PyData.list (ws.map rowD ++ [rowD w]) = waysD (ws ++ [w]) := by
  unfold waysD
  rw [List.map_append]
  rfl
theorem hasL_row (w : List Int) : hasL (rowD w) = false := by
  show hasLAll (w.map .int) = false
  induction w with
  | nil => rfl
  | cons x w ih => exact ih
end Mp

/-! K8: greatest numbers; what repr is able to show of lots. -/
namespace Mp
open PySem
theorem maxI_eq {l : List Int} {r : Int} (h1 : r ∈ l) (h2 : ∀ x ∈ l, x ≤ r) : maxI l = some r := by
  have key : ∀ (l : List Int) (x : Int), (∀ y ∈ l, y ≤ r) → x ≤ r → (x = r ∨ r ∈ l) → l.foldl (fun a b => if a < b then b else a) x = r := by
    intro l
    induction l with
    | nil => intro x _ _ h; exact h.resolve_right (by simp)
    | cons y l ih =>
      intro x hy hx h
      rw [List.foldl_cons]
      have y1 := hy y (.head _)
      refine ih _ (fun z hz => hy z (.tail _ hz)) (by split <;> omega) ?_
      rcases h with rfl | h
      · exact .inl (if_neg (by omega))
      · rcases List.mem_cons.mp h with rfl | h
        · exact .inl (by split <;> omega)
        · exact .inr h
  cases l with
  | nil => exact absurd h1 (by simp)
  | cons x l => exact congrArg some (key l x (fun y hy => h2 y (.tail _ hy)) (h2 x (.head _)) (by rcases List.mem_cons.mp h1 with rfl | h; exact .inl rfl; exact .inr h))
theorem bf_max_ints {l : List Int} {r : Int} (h1 : r ∈ l) (h2 : ∀ x ∈ l, x ≤ r) : bf .max1 [.list (l.map .int)] = some (.int r) := by
  show ((asInts (l.map .int)).bind maxI).map PyData.int = _
  rw [asInts_map, Option.bind_some, maxI_eq h1 h2]
  rfl
theorem bf_sorted_ks (ks : List (List Int)) (h : ks.length ≤ lim) : bf .sorted [ksD ks] = some (waysD (sortR ks)) := by
  show (sortD ((ksL ks).map (·.1))).map PyData.list = _
  have : (ksL ks).map (·.1) = ks.map rowD := by
    unfold ksL
    rw [List.map_map]
    rfl
  rw [this, sortD_rows ks h]
  rfl
theorem cop_ne_bool (a b : Bool) : cop .ne (.bool a) (.bool b) = some (!decide (a = b)) := by cases a <;> cases b <;> decide +kernel
theorem sh_bool (b : Bool) : Sh 60 1000000 (.bool b) := by
  cases b <;> exact ⟨⟨by unfold PyData.canLay0; rfl, by unfold PyData.depth; omega⟩, by decide +kernel, by decide +kernel, by decide +kernel, by decide +kernel⟩
theorem sh_lots {m : Nat} {ws : List (List Int)} (hm : m ≤ 7) (h : ∀ w ∈ ws, LotIn m w) (hl : ws.length ≤ 3000) : Sh 60 1000000 (waysD ws) := (sh_ways (k := 0) (fun w hw => ⟨fun x hx => by have := (h w hw).2 x hx; omega, by have := (h w hw).len; omega⟩) hl).up (by omega) (by omega)
theorem sh_mem {m : Nat} {lots : List (List Int)} (hm : m ≤ 7) (h : ∀ w ∈ lots, LotIn m w) (hl : lots.length ≤ 1000) : Sh 60 1000000 (memD m lots) := by
  have h1 : Sh 2 81000 (.tuple (lots.map rowD)) := sh_tuple (l := 1000) (w := 80) (fun d hd => by
    obtain ⟨w, hw, rfl⟩ := List.mem_map.mp hd
    exact sh_row (k := 0) (fun x hx => by have := (h w hw).2 x hx; omega) (by have := (h w hw).len; omega)) (by rw [List.length_map]; exact hl)
  exact (sh_tuple (k := 2) (l := 2) (w := 81000) (ds := [.int m, .tuple (lots.map rowD)]) (fun d hd => by
    rcases List.mem_cons.mp hd with rfl | hd
    · exact (sh_int ⟨by omega, by omega⟩).up (Nat.le_refl _) (by omega)
    · rw [List.mem_singleton.mp hd]
      exact h1) (by simp)).up (by omega) (by omega)
end Mp

/-! N1a: rests; ranks and spans by bases. -/
namespace Mp
open PySem
def restR (m : Nat) (w : List Int) : List Int := (upto m).filter fun x => !decide (x ∈ w)
theorem mem_restR {m : Nat} {w : List Int} {x : Int} : x ∈ restR m w ↔ (0 ≤ x ∧ x < m) ∧ x ∉ w := by
  unfold restR
  rw [List.mem_filter, mem_upto]
  simp
theorem upto_asc (n : Nat) : (upto n).Pairwise (· < ·) := by
  unfold upto
  rw [List.pairwise_map]
  exact List.pairwise_lt_range.imp fun {a b} h => by omega
theorem restR_lot (m : Nat) (w : List Int) : LotIn m (restR m w) := ⟨(upto_asc m).filter _, fun x hx => (mem_restR.mp hx).1⟩
theorem restR_inj {m : Nat} {a b : List Int} (ha : LotIn m a) (hb : LotIn m b) (e : restR m a = restR m b) : a = b := by
  refine asc_unique ha.1 hb.1 fun x => ?_
  have key : ∀ {a b : List Int}, LotIn m a → restR m a = restR m b → x ∈ a → x ∈ b := fun {a b} ha e hx => Classical.byContradiction fun no => by
    have : x ∈ restR m b := mem_restR.mpr ⟨ha.2 x hx, no⟩
    rw [← e] at this
    exact (mem_restR.mp this).2 hx
  exact ⟨key ha e, key hb e.symm⟩
/-- the rank by bases -/
def rkS (bs : List (List Int)) (L : List Int) : Nat := (bs.map (cut L)).foldl Nat.max 0
theorem foldl_max : ∀ (l : List Nat) (a : Nat), a ≤ l.foldl Nat.max a ∧ (∀ x ∈ l, x ≤ l.foldl Nat.max a) ∧ (l.foldl Nat.max a = a ∨ l.foldl Nat.max a ∈ l)
  | [], a => ⟨Nat.le_refl _, fun x hx => absurd hx (by simp), .inl rfl⟩
  | y :: l, a => by
    obtain ⟨h1, h2, h3⟩ := foldl_max l (Nat.max a y)
    rw [List.foldl_cons]
    refine ⟨Nat.le_trans (Nat.le_max_left _ _) h1, fun x hx => ?_, ?_⟩
    · rcases List.mem_cons.mp hx with rfl | hx
      · exact Nat.le_trans (Nat.le_max_right _ _) h1
      · exact h2 x hx
    · rcases h3 with h | h
      · rw [h]
        by_cases e : a ≤ y
        · exact .inr (by rw [show Nat.max a y = y from Nat.max_eq_right e]; exact .head _)
        · exact .inl (Nat.max_eq_left (by omega))
      · exact .inr (.tail _ h)
theorem rkS_le {bs : List (List Int)} {L b : List Int} (h : b ∈ bs) : cut L b ≤ rkS bs L := (foldl_max _ 0).2.1 _ (List.mem_map.mpr ⟨b, h, rfl⟩)
theorem rkS_at {bs : List (List Int)} (L : List Int) (h : bs ≠ []) : ∃ b ∈ bs, cut L b = rkS bs L := by
  rcases (foldl_max (bs.map (cut L)) 0).2.2 with e | e
  · cases bs with
    | nil => exact absurd rfl h
    | cons b r =>
      have := rkS_le (L := L) (List.mem_cons_self (a := b) (l := r))
      refine ⟨b, .head _, ?_⟩
      have e2 : rkS (b :: r) L = 0 := e
      omega
  · obtain ⟨b, h1, h2⟩ := List.mem_map.mp e
    exact ⟨b, h1, h2⟩
theorem rkS_congr {as bs : List (List Int)} (L : List Int) (h : ∀ b, b ∈ as ↔ b ∈ bs) : rkS as L = rkS bs L := by
  have key : ∀ {as bs : List (List Int)}, (∀ b, b ∈ as ↔ b ∈ bs) → rkS as L ≤ rkS bs L := fun {as bs} h => by
    by_cases e : as = []
    · subst e
      exact Nat.zero_le _
    · obtain ⟨b, h1, h2⟩ := rkS_at L e
      rw [← h2]
      exact rkS_le ((h b).mp h1)
  exact Nat.le_antisymm (key h) (key fun b => (h b).symm)
def spanR (m : Nat) (bs : List (List Int)) (L : List Int) : List Int := (upto m).filter fun x => decide ((rkS bs (L ++ [x]) : Int) = rkS bs L)
theorem spanR_congr {m : Nat} {as bs : List (List Int)} (L : List Int) (h : ∀ b, b ∈ as ↔ b ∈ bs) : spanR m as L = spanR m bs L := by
  unfold spanR
  refine List.filter_congr fun x _ => ?_
  rw [rkS_congr _ h, rkS_congr _ h]
theorem spanR_lot (m : Nat) (bs : List (List Int)) (L : List Int) : LotIn m (spanR m bs L) := ⟨(upto_asc m).filter _, fun x hx => mem_upto.mp (List.mem_filter.mp hx).1⟩
/-- the walk of a rank: bs some bases, at what `it` walks -/
theorem rank_comp {call : Call} {σ : Ev} {s : Src} (it : I) (bs : List (List Int)) (L : List Int) (x2 x3 : Slot) (hσ : ∃ x0, σ = [x0, .frz (rowD L), x2, x3]) (hi : evI call true it σ s = some (bs.map rowD, s)) (h0 : bs ≠ []) (hl : bs.length ≤ 10000) (hb : ∀ b ∈ bs, b.length ≤ 10000) :
    ev call false (.bf .max1 (.cons (.comp (.bf .len (.cons (.comp (.var 3) (.name 3) (.over (.var 2)) (.cmp .isin (.var 3) (.var 1)) [3]) .nil)) (.name 2) it (.bool true) [2]) .nil)) σ s = some (.int (rkS bs L : Int), s) := by
  obtain ⟨x0, rfl⟩ := hσ
  have c1 : ev call true (.comp (.bf .len (.cons (.comp (.var 3) (.name 3) (.over (.var 2)) (.cmp .isin (.var 3) (.var 1)) [3]) .nil)) (.name 2) it (.bool true) [2]) [x0, .frz (rowD L), x2, x3] s = some (.list ((bs.map fun b => (cut L b : Int)).map .int), s) := by
    rw [List.map_map]
    refine r_comp1 rowD (fun b => PyData.int (cut L b : Int)) bs hi (by unfold lim; omega) fun b hbs s => ⟨[x0, .frz (rowD L), .frz (rowD b), x3], rfl, ?_⟩
    refine r_bf1t (r_comp PyData.int (fun y => decide (y ∈ L)) PyData.int b (r_overT (r_var rfl)) (by have := hb b hbs; unfold lim; omega) fun y hy s => ⟨_, rfl, r_cmp (r_var rfl) (r_var rfl) (in_row _ _), fun _ => r_var rfl⟩) ?_ rfl
    show some (PyData.int (((b.filter fun y => decide (y ∈ L)).map PyData.int).length : Nat)) = _
    rw [List.length_map]
    rfl
  refine r_bf1t c1 (bf_max_ints ?_ ?_) rfl
  · obtain ⟨b, h1, h2⟩ := rkS_at L h0
    exact List.mem_map.mpr ⟨b, h1, by rw [h2]⟩
  · intro x hx
    obtain ⟨b, h1, rfl⟩ := List.mem_map.mp hx
    have := rkS_le (L := L) h1
    omega
end Mp

/-! N2: spans in the rest system by bases; slices. -/
namespace Mp
open PySem
theorem cut_flip {A b : List Int} (nA : A.Nodup) (nb : b.Nodup) : cut A b = (A.filter fun y => decide (y ∈ b)).length := by
  unfold cut
  refine Nat.le_antisymm (List.Nodup.length_le_of_subset (nb.filter _) (l₂ := A.filter fun y => decide (y ∈ b)) fun y hy => ?_) (List.Nodup.length_le_of_subset (nA.filter _) (l₂ := b.filter fun y => decide (y ∈ A)) fun y hy => ?_)
  · obtain ⟨h1, h2⟩ := List.mem_filter.mp hy
    exact List.mem_filter.mpr ⟨of_decide_eq_true h2, decide_eq_true h1⟩
  · obtain ⟨h1, h2⟩ := List.mem_filter.mp hy
    exact List.mem_filter.mpr ⟨of_decide_eq_true h2, decide_eq_true h1⟩
theorem cut_rest {m : Nat} {A b : List Int} (nA : A.Nodup) (hA : ∀ y ∈ A, 0 ≤ y ∧ y < m) (nb : b.Nodup) : cut A (restR m b) + cut A b = A.length := by
  rw [cut_flip nA (restR_lot m b).nodup, cut_flip nA nb, filter_split (fun y => decide (y ∈ b)) A]
  have : (A.filter fun y => decide (y ∈ restR m b)) = A.filter fun y => !decide (y ∈ b) := List.filter_congr fun y hy => by
    rw [Bool.eq_iff_iff, decide_eq_true_iff, mem_restR, Bool.not_eq_true', decide_eq_false_iff_not]
    exact ⟨fun q => q.2, fun q => ⟨hA y hy, q⟩⟩
  rw [this]
  omega
theorem cut_add {A b : List Int} {x : Int} (nA : A.Nodup) (hx : x ∉ A) (nb : b.Nodup) : cut (A ++ [x]) b = cut A b + if x ∈ b then 1 else 0 := by
  rw [cut_flip (nodup_snoc nA hx) nb, cut_flip nA nb, List.filter_append, List.length_append]
  congr 1
  by_cases h : x ∈ b <;> simp [h]
theorem span_iff {m : Nat} {bs : List (List Int)} {A : List Int} {x : Int} (h0 : bs ≠ []) (hb : ∀ b ∈ bs, b.Nodup) (nA : A.Nodup) (hA : ∀ y ∈ A, 0 ≤ y ∧ y < m) (hx : x ∉ A) (rx : 0 ≤ x ∧ x < m) :
    x ∈ spanR m (bs.map (restR m)) A ↔ ∀ b ∈ bs, (∀ b' ∈ bs, cut A b ≤ cut A b') → x ∈ b := by
  have nAx := nodup_snoc nA hx
  have hAx : ∀ y ∈ A ++ [x], 0 ≤ y ∧ y < m := fun y hy => (List.mem_append.mp hy).elim (hA y) fun h => by rw [List.mem_singleton.mp h]; exact rx
  have r0 : bs.map (restR m) ≠ [] := fun h => h0 (List.map_eq_nil_iff.mp h)
  have e1 : ∀ b ∈ bs, cut A (restR m b) + cut A b = A.length := fun b h => cut_rest nA hA (hb b h)
  have e2 : ∀ b ∈ bs, cut (A ++ [x]) (restR m b) + (cut A b + if x ∈ b then 1 else 0) = A.length + 1 := fun b h => by
    have := cut_rest nAx hAx (hb b h)
    rw [cut_add nA hx (hb b h), List.length_append, List.length_singleton] at this
    exact this
  have l1 : ∀ b ∈ bs, cut A (restR m b) ≤ rkS (bs.map (restR m)) A := fun b h => rkS_le (List.mem_map.mpr ⟨b, h, rfl⟩)
  have l2 : ∀ b ∈ bs, cut (A ++ [x]) (restR m b) ≤ rkS (bs.map (restR m)) (A ++ [x]) := fun b h => rkS_le (List.mem_map.mpr ⟨b, h, rfl⟩)
  obtain ⟨_, q, a1⟩ := rkS_at A r0
  obtain ⟨b0, hb0, rfl⟩ := List.mem_map.mp q
  obtain ⟨_, q, a2⟩ := rkS_at (A ++ [x]) r0
  obtain ⟨b1, hb1, rfl⟩ := List.mem_map.mp q
  have m0 := e1 b0 hb0
  have m1 := e2 b1 hb1
  have m2 := e2 b0 hb0
  have m3 := l2 b0 hb0
  have m4 := e1 b1 hb1
  have m5 := l1 b1 hb1
  unfold spanR
  rw [List.mem_filter, mem_upto, decide_eq_true_iff, Int.ofNat_inj]
  constructor
  · rintro ⟨_, e⟩ b hbb hmin
    refine Classical.byContradiction fun no => ?_
    have n1 := e2 b hbb
    rw [if_neg no] at n1
    have n2 := l2 b hbb
    have n3 := hmin b0 hb0
    omega
  · intro S
    refine ⟨rx, ?_⟩
    have min0 : ∀ b' ∈ bs, cut A b0 ≤ cut A b' := fun b' h => by
      have n1 := e1 b' h
      have n2 := l1 b' h
      omega
    have x0 := S b0 hb0 min0
    rw [if_pos x0] at m2
    by_cases x1 : x ∈ b1
    · rw [if_pos x1] at m1
      omega
    · rw [if_neg x1] at m1
      have : cut A b1 ≠ cut A b0 := fun e => x1 (S b1 hb1 fun b' h => by rw [e]; exact min0 b' h)
      have := min0 b1 hb1
      omega
/-- A without x -/
def lessR (A : List Int) (x : Int) : List Int := A.filter fun y => !decide (y = x)
theorem mem_lessR {A : List Int} {x y : Int} : y ∈ lessR A x ↔ y ∈ A ∧ y ≠ x := by
  unfold lessR
  rw [List.mem_filter]
  simp
theorem lessR_lot {m : Nat} {A : List Int} {x : Int} (h : LotIn m A) : LotIn m (lessR A x) := ⟨h.1.filter _, fun y hy => h.2 y (mem_lessR.mp hy).1⟩
theorem wid_less {m k : Nat} {lots : List (List Int)} {A : List Int} {x : Int} (hk : lots[k]? = some A) (hA : LotIn m A) (hx : x ∈ A) : Wid m k (lots.set k (lessR A x)) lots (lessR A x) x := by
  have kl := (List.getElem?_eq_some_iff.mp hk).1
  refine ⟨by rw [List.length_set], by rw [List.getElem?_set_self kl], fun h => (mem_lessR.mp h).2 rfl, hA.2 x hx, fun y j => ?_⟩
  rw [meet_iff, meet_iff]
  by_cases e : j = k
  · subst e
    rw [hk, List.getElem?_set_self kl]
    constructor
    · rintro ⟨l, h1, h2⟩
      cases h1
      by_cases ey : y = x
      · exact .inr ⟨ey, rfl⟩
      · exact .inl ⟨_, rfl, mem_lessR.mpr ⟨h2, ey⟩⟩
    · rintro (⟨l, h1, h2⟩ | ⟨rfl, _⟩)
      · cases h1
        exact ⟨_, rfl, (mem_lessR.mp h2).1⟩
      · exact ⟨_, rfl, hx⟩
  · rw [List.getElem?_set_ne (Ne.symm e)]
    exact ⟨.inl, fun h => h.elim id fun q => absurd q.2 e⟩
theorem set_D {lots : List (List Int)} {k : Nat} (B : List Int) (h : k < lots.length) : (lots.take k).map rowD ++ (rowD B :: ((lots.drop (k + 1)).map rowD ++ [])) = (lots.set k B).map rowD := by
  rw [List.append_nil, List.set_eq_take_append_cons_drop, if_pos h, List.map_append]
  rfl
theorem cut_drop (xs : List D) (k : Nat) : cutD xs (some (k : Int)) none = xs.drop k := by
  unfold cutD
  rw [cut_nn (by omega), Int.toNat_natCast]
  show (xs.drop (min k xs.length)).take (xs.length - min k xs.length) = _
  rw [List.take_of_length_le (by rw [List.length_drop]; exact Nat.le_refl _)]
  by_cases h : k ≤ xs.length
  · rw [Nat.min_eq_left h]
  · rw [Nat.min_eq_right (by omega), List.drop_of_length_le (Nat.le_refl _), List.drop_of_length_le (by omega)]
end Mp

set_option maxHeartbeats 4000000
/-! M6: ranks by what members meet (Ore); a least base exists; spans by least bases are shut; members permuted. -/
namespace Mp
open PySem
open Classical in
theorem ore {lots : List (List Int)} {A : List Int} {g : Gv} (h : Great lots A g) (nd : A.Nodup) : ∃ B : List Int, B.Nodup ∧ (∀ y ∈ B, y ∈ A) ∧ (things g).length = (nb lots B).length + (A.filter fun y => !decide (y ∈ B)).length := by
  let U : Int → Prop := fun y => ∃ t X, t ∈ A ∧ ¬ has g t ∧ X.Nodup ∧ t ∈ X ∧ (∀ x ∈ X, x = t ∨ has g x) ∧ (nb lots X).length < X.length ∧ y ∈ X
  have hold : ∀ x k, U x → meet lots x k → ∃ y, U y ∧ g[k]? = some (some y) := fun x k ⟨t, X, q1, q2, a, b, c, d, e⟩ hm => by
    obtain ⟨y, hy, q⟩ := few_hold h.giv a b c d k (mem_nb.mpr ⟨x, e, hm⟩)
    exact ⟨y, ⟨t, X, q1, q2, a, b, c, d, hy⟩, q⟩
  have UA : ∀ y, U y → y ∈ A := fun y ⟨t, X, q1, q2, a, b, c, d, e⟩ => (c y e).elim (fun z => z ▸ q1) (h.sub y)
  have out : ∀ y ∈ A, ¬ U y → has g y := fun y hy hu => (h.max y hy).elim id fun s => Classical.byContradiction fun no => by
    obtain ⟨X, a, b, c, d, _⟩ := s
    exact hu ⟨y, X, hy, no, a, b, c, d, b⟩
  have ndT := things_nodup h.giv.inj
  refine ⟨A.filter fun y => decide (U y), nd.filter _, fun y hy => (List.mem_filter.mp hy).1, ?_⟩
  have mB : ∀ y, y ∈ (A.filter fun y => decide (U y)) ↔ U y := fun y => by
    rw [List.mem_filter, decide_eq_true_iff]
    exact ⟨fun q => q.2, fun q => ⟨UA y q, q⟩⟩
  have e0 : (A.filter fun y => !decide (y ∈ A.filter fun y => decide (U y))) = A.filter fun y => !decide (U y) := List.filter_congr fun y _ => by
    congr 1
    exact decide_eq_decide.mpr (mB y)
  rw [e0]
  refine Nat.le_antisymm ?_ ?_
  · rw [filter_split (fun x => decide (U x)) (things g)]
    refine Nat.add_le_add ?_ ?_
    · have := (map_nodup (holder g) (ndT.filter fun x => decide (U x)) fun x hx y hy e => holder_inj (mem_things.mp (List.mem_filter.mp hx).1) (mem_things.mp (List.mem_filter.mp hy).1) e).length_le_of_subset (l₂ := nb lots (A.filter fun y => decide (U y))) fun k hk => by
        obtain ⟨x, hx, rfl⟩ := List.mem_map.mp hk
        obtain ⟨h1, h2⟩ := List.mem_filter.mp hx
        exact mem_nb.mpr ⟨x, (mB x).mpr (of_decide_eq_true h2), h.giv.ok _ _ (holder_at (mem_things.mp h1))⟩
      rwa [List.length_map] at this
    · refine List.Nodup.length_le_of_subset (ndT.filter _) (l₂ := A.filter fun y => !decide (U y)) fun x hx => ?_
      obtain ⟨h1, h2⟩ := List.mem_filter.mp hx
      exact List.mem_filter.mpr ⟨h.sub x (mem_things.mp h1), h2⟩
  · rw [filter_split (fun x => decide (U x)) (things g)]
    refine Nat.add_le_add ?_ ?_
    · have key : ∀ k ∈ nb lots (A.filter fun y => decide (U y)), ∃ y, U y ∧ g[k]? = some (some y) := fun k hk => by
        obtain ⟨x, h1, h2⟩ := mem_nb.mp hk
        exact hold x k ((mB x).mp h1) h2
      have := (map_nodup (fun k => if hx : ∃ y, U y ∧ g[k]? = some (some y) then Classical.choose hx else 0) (nb_nodup lots (A.filter fun y => decide (U y))) fun x hx y hy e => by
        have ex := key x hx
        have ey := key y hy
        simp only [dif_pos ex, dif_pos ey] at e
        have q1 := (Classical.choose_spec ex).2
        have q2 := (Classical.choose_spec ey).2
        rw [e] at q1
        exact h.giv.inj _ _ _ q1 q2).length_le_of_subset (l₂ := (things g).filter fun x => decide (U x)) fun y hy => by
        obtain ⟨x, hx, rfl⟩ := List.mem_map.mp hy
        have ex := key x hx
        simp only [dif_pos ex]
        have q := Classical.choose_spec ex
        exact List.mem_filter.mpr ⟨mem_things.mpr ⟨_, q.2⟩, decide_eq_true q.1⟩
      rwa [List.length_map] at this
    · refine List.Nodup.length_le_of_subset (nd.filter _) (l₂ := (things g).filter fun y => !decide (U y)) fun x hx => ?_
      obtain ⟨h1, h2⟩ := List.mem_filter.mp hx
      have h3 := h2
      rw [Bool.not_eq_true', decide_eq_false_iff_not] at h3
      exact List.mem_filter.mpr ⟨mem_things.mpr (out x h1 h3), h2⟩
theorem nb_mono {lots : List (List Int)} {X Y : List Int} (h : ∀ x ∈ X, x ∈ Y) : (nb lots X).length ≤ (nb lots Y).length :=
  List.Nodup.length_le_of_subset (nb_nodup lots X) (l₂ := nb lots Y) fun k hk => by
    obtain ⟨x, h1, h2⟩ := mem_nb.mp hk
    exact mem_nb.mpr ⟨x, h x h1, h2⟩
theorem ore_le {lots : List (List Int)} {A L B : List Int} (nL : L.Nodup) (gL : Given lots L) (hL : ∀ y ∈ L, y ∈ A) : L.length ≤ (nb lots B).length + (A.filter fun y => !decide (y ∈ B)).length := by
  rw [filter_split (fun x => decide (x ∈ B)) L]
  refine Nat.add_le_add (Nat.le_trans (hall_easy (gL.sub fun x hx => (List.mem_filter.mp hx).1) (nL.filter _)) (nb_mono fun x hx => of_decide_eq_true (List.mem_filter.mp hx).2)) ?_
  refine List.Nodup.length_le_of_subset (nL.filter _) (l₂ := A.filter fun y => !decide (y ∈ B)) fun x hx => ?_
  obtain ⟨h1, h2⟩ := List.mem_filter.mp hx
  exact List.mem_filter.mpr ⟨hL x h1, h2⟩
/-- a base that has least of A -/
theorem exists_min {m : Nat} {lots : List (List Int)} (A : List Int) (whole : ∃ b, Full m lots b) : ∃ b, Full m lots b ∧ ∀ b', Full m lots b' → cut A b ≤ cut A b' := by
  obtain ⟨b0, hb0⟩ := whole
  have : ∀ (n : Nat) (b : List Int), Full m lots b → cut A b ≤ n → ∃ b, Full m lots b ∧ ∀ b', Full m lots b' → cut A b ≤ cut A b' := by
    intro n
    induction n with
    | zero => exact fun b hb hn => ⟨b, hb, fun b' _ => by omega⟩
    | succ n ih =>
      intro b hb hn
      by_cases e : ∃ b', Full m lots b' ∧ cut A b' ≤ n
      · obtain ⟨b', h1, h2⟩ := e
        exact ih b' h1 h2
      · exact ⟨b, hb, fun b' hb' => Classical.byContradiction fun no => e ⟨b', hb', by omega⟩⟩
  exact this _ b0 hb0 (Nat.le_refl _)
/-- in all bases that have least of A -/
def InSp (m : Nat) (lots : List (List Int)) (A : List Int) (x : Int) : Prop := ∀ b, Full m lots b → (∀ b', Full m lots b' → cut A b ≤ cut A b') → x ∈ b
theorem cut_congr {A A' b : List Int} (h : ∀ y, y ∈ A ↔ y ∈ A') : cut A b = cut A' b := by
  unfold cut
  congr 1
  exact List.filter_congr fun y _ => decide_eq_decide.mpr (h y)
theorem cut_snoc {A b : List Int} {x : Int} (hx : x ∉ A) (nb : b.Nodup) : cut (A ++ [x]) b = cut A b + if x ∈ b then 1 else 0 := by
  have key : ∀ b : List Int, b.Nodup → (b.filter fun y => decide (y ∈ A ++ [x])).length = (b.filter fun y => decide (y ∈ A)).length + if x ∈ b then 1 else 0 := by
    intro b
    induction b with
    | nil => intro _; rfl
    | cons z b ih =>
      intro nd
      obtain ⟨h1, h2⟩ := List.nodup_cons.mp nd
      have := ih h2
      rw [List.filter_cons, List.filter_cons]
      by_cases e : z = x
      · subst e
        rw [if_neg h1] at this
        simp [hx]
        simpa using this
      · by_cases hz : z ∈ A
        · have : x ∈ z :: b ↔ x ∈ b := by simp [Ne.symm e]
          simp [hz, this]
          simp at ih
          have := ih h2
          omega
        · have : x ∈ z :: b ↔ x ∈ b := by simp [Ne.symm e]
          simp [hz, e, this]
          simp at ih
          exact ih h2
  exact key b nb
theorem cut_off {A b : List Int} : (b.filter fun y => !decide (y ∈ A)).length + cut A b = b.length := by
  unfold cut
  have := filter_split (fun y => decide (y ∈ A)) b
  omega
section
variable {m : Nat} {lots : List (List Int)} (hl : lots.length ≤ 1000) (hll : ∀ l ∈ lots, l.length ≤ 1000) (whole : ∃ b, Full m lots b)
include hl hll whole
theorem insp_close {A : List Int} {x y : Int} (hx : x ∉ A) (hy : y ∉ A) (ne : y ≠ x) (S : InSp m lots A x) : InSp m lots (A ++ [x]) y ↔ InSp m lots A y := by
  obtain ⟨b0, hb0, m0⟩ := exists_min A whole
  have x0 := S b0 hb0 m0
  have up : ∀ b, Full m lots b → cut A b0 + 1 ≤ cut (A ++ [x]) b := fun b hb => by
    rw [cut_snoc hx hb.lot.nodup]
    have := m0 b hb
    by_cases h : x ∈ b
    · rw [if_pos h]; omega
    · rw [if_neg h]
      have : cut A b ≠ cut A b0 := fun e => h (S b hb fun b' hb' => by rw [e]; exact m0 b' hb')
      omega
  constructor
  · intro T b hb hmin
    refine T b hb fun b' hb' => Nat.le_trans ?_ (up b' hb')
    rw [cut_snoc hx hb.lot.nodup, if_pos (S b hb hmin)]
    have := hmin b0 hb0
    omega
  · intro T b hb hmin
    have h1 := hmin b0 hb0
    rw [cut_snoc hx hb.lot.nodup, cut_snoc hx hb0.lot.nodup, if_pos x0] at h1
    have h2 := m0 b hb
    by_cases hxb : x ∈ b
    · rw [if_pos hxb] at h1
      exact T b hb fun b' hb' => Nat.le_trans (by omega) (m0 b' hb')
    · rw [if_neg hxb] at h1
      refine Classical.byContradiction fun hyb => ?_
      have h3 : cut A b ≠ cut A b0 := fun e => hxb (S b hb fun b' hb' => by rw [e]; exact m0 b' hb')
      have c1 := cut_off (A := A) (b := b)
      have c0 := cut_off (A := A) (b := b0)
      have lb := hb.len
      have lb0 := hb0.len
      have nI : (b.filter fun y => !decide (y ∈ A)).Nodup := hb.lot.nodup.filter _
      have gI : Given lots (b.filter fun y => !decide (y ∈ A)) := hb.giv.sub fun y hy => (List.mem_filter.mp hy).1
      have nJ : (b0.filter fun y => !decide (y ∈ A)).Nodup := hb0.lot.nodup.filter _
      have gJ : Given lots (b0.filter fun y => !decide (y ∈ A)) := hb0.giv.sub fun y hy => (List.mem_filter.mp hy).1
      obtain ⟨z, z1, z2, z3⟩ := exchange nI nJ gI gJ (by omega) hl hll
      obtain ⟨b2, q1, q2, q3, q4, q5⟩ := extend hl hll hb.lot.nodup hb.giv (b.length - ((b.filter fun y => !decide (y ∈ A)) ++ [z]).length) ((b.filter fun y => !decide (y ∈ A)) ++ [z]) (by rw [List.length_append, List.length_singleton]; omega) (nodup_snoc nI z2) z3
      have rg2 : ∀ y ∈ b2, 0 ≤ y ∧ y < m := fun w hw => by
        rcases q5 w hw with h | h
        · rcases List.mem_append.mp h with h | h
          · exact hb.lot.2 w (List.mem_filter.mp h).1
          · rw [List.mem_singleton.mp h]
            exact hb0.lot.2 z (List.mem_filter.mp z1).1
        · exact hb.lot.2 w h
      have F2 := full_sort (m := m) q1 rg2 q2 (q3.trans hb.len)
      have ms : ∀ y, y ∈ sortI b2 ↔ y ∈ b2 := fun y => (sortI_perm b2).mem_iff
      have zA : z ∉ A := by
        have := (List.mem_filter.mp z1).2
        rwa [Bool.not_eq_true', decide_eq_false_iff_not] at this
      have le2 : cut A (sortI b2) ≤ cut A b0 := by
        have e2 := cut_off (A := A) (b := sortI b2)
        have : ((b.filter fun y => !decide (y ∈ A)) ++ [z]).length ≤ ((sortI b2).filter fun y => !decide (y ∈ A)).length := List.Nodup.length_le_of_subset (nodup_snoc nI z2) (l₂ := (sortI b2).filter fun y => !decide (y ∈ A)) fun w hw => by
          refine List.mem_filter.mpr ⟨(ms w).mpr (q4 w hw), ?_⟩
          rcases List.mem_append.mp hw with h | h
          · exact (List.mem_filter.mp h).2
          · rw [List.mem_singleton.mp h, decide_eq_false zA]
            rfl
        rw [List.length_append, List.length_singleton] at this
        have := F2.len
        omega
      have least := fun b' hb' => Nat.le_trans le2 (m0 b' hb')
      have at_ : ∀ w, w ∉ A → w ∉ b → w ∈ b2 → w = z := fun w w1 w2 w3 => by
        rcases q5 w w3 with h | h
        · rcases List.mem_append.mp h with h | h
          · exact absurd (List.mem_filter.mp h).1 w2
          · exact List.mem_singleton.mp h
        · exact absurd h w2
      have ex := at_ x hx hxb ((ms x).mp (S _ F2 least))
      have ey := at_ y hy hyb ((ms y).mp (T _ F2 least))
      exact ne (ey.trans ex.symm)
end
/-! ### members permuted -/
theorem perm_idx : ∀ {l1 l2 : List (List Int)}, l1.Perm l2 → ∃ σ : Nat → Nat, (∀ i x, l1[i]? = some x → l2[σ i]? = some x) ∧ ∀ i j, i < l1.length → j < l1.length → σ i = σ j → i = j := by
  intro l1 l2 p
  induction p with
  | nil => exact ⟨id, fun i x h => h, fun i j _ _ h => h⟩
  | @cons a l1 l2 p ih =>
    obtain ⟨σ, s1, s2⟩ := ih
    refine ⟨fun i => match i with | 0 => 0 | i + 1 => σ i + 1, fun i x h => ?_, fun i j hi hj h => ?_⟩
    · cases i with
      | zero => simpa using h
      | succ i => simpa using s1 i x (by simpa using h)
    · cases i with
      | zero =>
        cases j with
        | zero => rfl
        | succ j => simp at h
      | succ i =>
        cases j with
        | zero => simp at h
        | succ j =>
          rw [List.length_cons] at hi hj
          have := s2 i j (by omega) (by omega) (by simpa using h)
          omega
  | swap a b l =>
    refine ⟨fun i => match i with | 0 => 1 | 1 => 0 | i + 2 => i + 2, fun i x h => ?_, fun i j _ _ h => ?_⟩
    · match i, h with
      | 0, h => simpa using h
      | 1, h => simpa using h
      | i + 2, h => simpa using h
    · match i, j, h with
      | 0, 0, _ => rfl
      | 0, 1, h => simp at h
      | 0, j + 2, h => simp at h
      | 1, 0, h => simp at h
      | 1, 1, _ => rfl
      | 1, j + 2, h => simp at h
      | i + 2, 0, h => simp at h
      | i + 2, 1, h => simp at h
      | i + 2, j + 2, h => simpa using h
  | @trans l1 l2 l3 p1 p2 ih1 ih2 =>
    obtain ⟨σ, s1, s2⟩ := ih1
    obtain ⟨τ, t1, t2⟩ := ih2
    refine ⟨fun i => τ (σ i), fun i x h => t1 _ x (s1 i x h), fun i j hi hj h => s2 i j hi hj (t2 _ _ ?_ ?_ h)⟩
    · exact (List.getElem?_eq_some_iff.mp (s1 i _ (List.getElem?_eq_getElem hi))).1
    · exact (List.getElem?_eq_some_iff.mp (s1 j _ (List.getElem?_eq_getElem hj))).1
theorem given_perm {l1 l2 : List (List Int)} (p : l1.Perm l2) {L : List Int} (h : Given l1 L) : Given l2 L := by
  obtain ⟨σ, s1, s2⟩ := perm_idx p
  obtain ⟨f, f1, f2⟩ := h
  refine ⟨fun x => σ (f x), fun x hx => ?_, fun x hx y hy e => f2 x hx y hy (s2 _ _ (meet_lt (f1 x hx)) (meet_lt (f1 y hy)) e)⟩
  obtain ⟨l, a, b⟩ := meet_iff.mp (f1 x hx)
  exact meet_iff.mpr ⟨l, s1 _ _ a, b⟩
theorem full_perm {m : Nat} {l1 l2 : List (List Int)} (p : l1.Perm l2) (w : List Int) : Full m l1 w ↔ Full m l2 w :=
  ⟨fun h => ⟨h.lot, given_perm p h.giv, h.len.trans p.length_eq⟩, fun h => ⟨h.lot, given_perm p.symm h.giv, h.len.trans p.length_eq.symm⟩⟩
end Mp

/-! N3: members widened; all made their spans tell the same bases; members within shut lots. -/
namespace Mp
open PySem
theorem wid_more {m k : Nat} {lots : List (List Int)} {A : List Int} {x : Int} (hk : lots[k]? = some A) (hx : x ∉ A) (rx : 0 ≤ x ∧ x < m) : Wid m k lots (lots.set k (sortI (A ++ [x]))) A x := by
  have kl := (List.getElem?_eq_some_iff.mp hk).1
  have me : ∀ y, y ∈ sortI (A ++ [x]) ↔ y ∈ A ∨ y = x := fun y => by rw [(sortI_perm _).mem_iff, List.mem_append, List.mem_singleton]
  refine ⟨by rw [List.length_set], hk, hx, rx, fun y j => ?_⟩
  rw [meet_iff, meet_iff]
  by_cases e : j = k
  · subst e
    rw [hk, List.getElem?_set_self kl]
    constructor
    · rintro ⟨l, h1, h2⟩
      cases h1
      rcases (me y).mp h2 with h | h
      · exact .inl ⟨_, rfl, h⟩
      · exact .inr ⟨h, rfl⟩
    · rintro (⟨l, h1, h2⟩ | ⟨rfl, _⟩)
      · cases h1
        exact ⟨_, rfl, (me y).mpr (.inl h2)⟩
      · exact ⟨_, rfl, (me y).mpr (.inr rfl)⟩
  · rw [List.getElem?_set_ne (Ne.symm e)]
    exact ⟨.inl, fun h => h.elim id fun q => absurd q.2 e⟩
theorem spanR_set {m : Nat} {bs : List (List Int)} {A A' : List Int} (h : ∀ y, y ∈ A ↔ y ∈ A') : spanR m bs A = spanR m bs A' := by
  unfold spanR rkS
  refine List.filter_congr fun x _ => ?_
  have e1 : cut A = cut A' := funext fun b => cut_congr h
  have e2 : cut (A ++ [x]) = cut (A' ++ [x]) := funext fun b => cut_congr fun y => by rw [List.mem_append, List.mem_append, h]
  rw [e1, e2]
theorem span_self {m : Nat} {bs : List (List Int)} {A : List Int} {x : Int} (hx : x ∈ A) (rx : 0 ≤ x ∧ x < m) : x ∈ spanR m bs A := by
  unfold spanR rkS
  rw [List.mem_filter, mem_upto, decide_eq_true_iff]
  have e2 : cut (A ++ [x]) = cut A := funext fun b => cut_congr fun y => by
    rw [List.mem_append, List.mem_singleton]
    exact ⟨fun h => h.elim id fun e => e ▸ hx, .inl⟩
  rw [e2]
  exact ⟨rx, rfl⟩
section
variable {m : Nat} {lots bs : List (List Int)} (hl : lots.length ≤ 1000) (hll : ∀ l ∈ lots, l.length ≤ 1000) (whole : ∃ b, Full m lots b) (hbs : ∀ b, b ∈ bs ↔ Full m lots b)
include whole hbs
theorem bs_ne : bs ≠ [] := fun e => by
  obtain ⟨b, q⟩ := whole
  have := (hbs b).mpr q
  rw [e] at this
  exact absurd this (by simp)
theorem span_insp {A : List Int} {x : Int} (hA : LotIn m A) (hx : x ∉ A) (rx : 0 ≤ x ∧ x < m) : x ∈ spanR m (bs.map (restR m)) A ↔ InSp m lots A x := by
  rw [span_iff (bs_ne whole hbs) (fun b h => ((hbs b).mp h).lot.nodup) hA.nodup hA.2 hx rx]
  exact ⟨fun q b hb hmin => q b ((hbs b).mpr hb) fun b' h => hmin b' ((hbs b').mp h), fun q b hb hmin => q b ((hbs b).mp hb) fun b' h => hmin b' ((hbs b').mpr h)⟩
include hl hll
theorem span_grow {A : List Int} {x : Int} (hA : LotIn m A) (hx : x ∉ A) (rx : 0 ≤ x ∧ x < m) (S : x ∈ spanR m (bs.map (restR m)) A) : spanR m (bs.map (restR m)) (sortI (A ++ [x])) = spanR m (bs.map (restR m)) A := by
  have S' := (span_insp whole hbs hA hx rx).mp S
  have ms : ∀ y, y ∈ sortI (A ++ [x]) ↔ y ∈ A ++ [x] := fun y => (sortI_perm _).mem_iff
  have hA2 := lot_add hA rx hx
  refine asc_unique (spanR_lot _ _ _).1 (spanR_lot _ _ _).1 fun y => ?_
  by_cases ry : 0 ≤ y ∧ y < m
  · by_cases hy : y ∈ A
    · exact ⟨fun _ => span_self hy ry, fun _ => span_self ((ms y).mpr (List.mem_append_left _ hy)) ry⟩
    · by_cases e : y = x
      · subst e
        exact ⟨fun _ => S, fun _ => span_self ((ms y).mpr (List.mem_append_right _ (.head _))) ry⟩
      · have hy2 : y ∉ sortI (A ++ [x]) := fun h => by
          rcases List.mem_append.mp ((ms y).mp h) with h | h
          · exact hy h
          · exact e (List.mem_singleton.mp h)
        rw [span_insp whole hbs hA2 hy2 ry, span_insp whole hbs hA hy ry, ← insp_close hl hll whole hx hy e S']
        unfold InSp
        have e1 : cut (sortI (A ++ [x])) = cut (A ++ [x]) := funext fun b => cut_congr ms
        rw [e1]
  · exact ⟨fun h => absurd ((spanR_lot _ _ _).2 y h) ry, fun h => absurd ((spanR_lot _ _ _).2 y h) ry⟩
end
theorem sum_set {f : List Int → Nat} : ∀ {l : List (List Int)} {i : Nat} {a b : List Int}, l[i]? = some a → ((l.set i b).map f).sum + f a = (l.map f).sum + f b
  | [], i, a, b, h => by simp at h
  | x :: l, 0, a, b, h => by
    have : x = a := by simpa using h
    subst this
    simp only [List.set_cons_zero, List.map_cons, List.sum_cons]
    omega
  | x :: l, i + 1, a, b, h => by
    have := sum_set (f := f) (b := b) (show l[i]? = some a by simpa using h)
    simp only [List.set_cons_succ, List.map_cons, List.sum_cons]
    omega
theorem sum_le {f : List Int → Nat} {k : Nat} : ∀ {l : List (List Int)}, (∀ a ∈ l, f a ≤ k) → (l.map f).sum ≤ l.length * k
  | [], _ => by simp
  | x :: l, h => by
    have h1 := h x (.head _)
    have h2 := sum_le fun a ha => h a (.tail _ ha)
    rw [List.map_cons, List.sum_cons, List.length_cons, Nat.add_mul]
    omega
section
variable {m : Nat} {lots bs : List (List Int)} (hm : m ≤ 1000) (hl : lots.length ≤ 1000) (hlt : ∀ l ∈ lots, LotIn m l) (whole : ∃ b, Full m lots b) (hbs : ∀ b, b ∈ bs ↔ Full m lots b)
include hm hl hlt whole hbs
theorem spans_same : (∀ w, Full m (lots.map (spanR m (bs.map (restR m)))) w ↔ Full m lots w) ∧ (lots.map (spanR m (bs.map (restR m)))).map (spanR m (bs.map (restR m))) = lots.map (spanR m (bs.map (restR m))) := by
  have go : ∀ (n : Nat) (late : List (List Int)), late.length = lots.length → (∀ l ∈ late, LotIn m l) → (∀ w, Full m late w ↔ Full m lots w) → late.map (spanR m (bs.map (restR m))) = lots.map (spanR m (bs.map (restR m))) → lots.length * m < (late.map List.length).sum + n →
      (∀ w, Full m (lots.map (spanR m (bs.map (restR m)))) w ↔ Full m lots w) ∧ (lots.map (spanR m (bs.map (restR m)))).map (spanR m (bs.map (restR m))) = lots.map (spanR m (bs.map (restR m))) := by
    intro n
    induction n with
    | zero =>
      intro late h1 h2 _ _ h5
      have := sum_le (f := List.length) (k := m) fun a ha => (h2 a ha).len
      rw [h1] at this
      omega
    | succ n ih =>
      intro late h1 h2 h3 h4 h5
      have lw : ∃ b, Full m late b := whole.imp fun b hb => (h3 b).mpr hb
      have lbs : ∀ b, b ∈ bs ↔ Full m late b := fun b => (hbs b).trans (h3 b).symm
      have lll : ∀ l ∈ late, l.length ≤ 1000 := fun l h => by have := (h2 l h).len; omega
      by_cases e : late.map (spanR m (bs.map (restR m))) = late
      · rw [← h4, e, e]
        exact ⟨h3, rfl⟩
      · obtain ⟨i, A, hi, x, hx, hxA⟩ : ∃ (i : Nat) (A : List Int), late[i]? = some A ∧ ∃ x, x ∈ spanR m (bs.map (restR m)) A ∧ x ∉ A := by
          refine Classical.byContradiction fun no => e (List.ext_getElem? fun i => ?_)
          rw [List.getElem?_map]
          cases hi : late[i]? with
          | none => rfl
          | some A =>
            have hA := h2 A (List.mem_of_getElem? hi)
            refine congrArg some (asc_unique (spanR_lot _ _ _).1 hA.1 fun y => ⟨fun hy => ?_, fun hy => span_self hy (hA.2 y hy)⟩)
            exact Classical.byContradiction fun hn => no ⟨i, A, hi, y, hy, hn⟩
        have hA := h2 A (List.mem_of_getElem? hi)
        have rx := (spanR_lot _ _ _).2 x hx
        have W := wid_more hi hxA rx
        have wd := (widened W (by omega) lll lw).mp fun b hb hmin => (span_insp lw lbs hA hxA rx).mp hx b hb hmin
        have ln : (sortI (A ++ [x])).length = A.length + 1 := by rw [(sortI_perm _).length_eq, List.length_append, List.length_singleton]
        refine ih (late.set i (sortI (A ++ [x]))) (by rw [List.length_set]; exact h1) (fun l h => (List.mem_or_eq_of_mem_set h).elim (h2 l) fun e => e ▸ lot_add hA rx hxA) (fun w => (wd w).trans (h3 w)) ?_ ?_
        · rw [List.map_set, span_grow (by omega) lll lw lbs hA hxA rx hx, ← h4]
          refine List.ext_getElem? fun j => ?_
          by_cases ej : j = i
          · subst ej
            have il := (List.getElem?_eq_some_iff.mp hi).1
            rw [List.getElem?_set_self (by rw [List.length_map]; exact il), List.getElem?_map, hi]
            rfl
          · rw [List.getElem?_set_ne (Ne.symm ej)]
        · have := sum_set (f := List.length) (b := sortI (A ++ [x])) hi
          omega
  exact go (lots.length * m + 1) lots rfl hlt (fun w => Iff.rfl) rfl (by omega)
end
end Mp

/-! N4p: tuples of rows; rests. -/
namespace Mp
open PySem
theorem bf_sorted_tup (a : List (List Int)) (h : a.length ≤ lim) : bf .sorted [.tuple (a.map rowD)] = some (waysD (sortR a)) := by
  show (sortD (a.map rowD)).map PyData.list = _
  rw [sortD_rows a h]
  rfl
theorem bf_tuple_ways (a : List (List Int)) : bf .tuple [waysD a] = some (.tuple (a.map rowD)) := rfl
theorem shp_tups (a : List (List Int)) : shp (.tuple (a.map rowD)) = true := (pl_tuple (k := 1) fun d hd => by
    obtain ⟨i, _, rfl⟩ := List.mem_map.mp hd
    exact pl_row i).shp (by omega)
theorem cop_eq_tups (a b : List (List Int)) : cop .eq (.tuple (a.map rowD)) (.tuple (b.map rowD)) = some (decide (a = b)) := by
  show (if shp _ && shp _ then some (PyData.eqvAll (a.map rowD) (b.map rowD)) else none) = _
  rw [eqvAll_map rowD eqv_row, shp_tups, shp_tups]
  rfl
theorem cop_ne_tups (a b : List (List Int)) : cop .ne (.tuple (a.map rowD)) (.tuple (b.map rowD)) = some (!decide (a = b)) := by
  show (if shp _ && shp _ then some (!PyData.eqvAll (a.map rowD) (b.map rowD)) else none) = _
  rw [eqvAll_map rowD eqv_row, shp_tups, shp_tups]
  rfl
theorem shp_mem (m : Nat) (lots : List (List Int)) : shp (memD m lots) = true := (show Pl 3 (memD m lots) from pl_tuple fun d hd => by
    rcases List.mem_cons.mp hd with rfl | hd
    · exact pl_int _
    · rw [List.mem_singleton.mp hd]
      exact pl_tuple fun d hd => by
        obtain ⟨w, _, rfl⟩ := List.mem_map.mp hd
        exact pl_row w).shp (by omega)
theorem cop_eq_mem (m : Nat) (a b : List (List Int)) : cop .eq (memD m a) (memD m b) = some (decide (a = b)) := by
  show (if shp (memD m a) && shp (memD m b) then some ((PyData.int m).eqv (.int m) && (PyData.eqvAll (a.map rowD) (b.map rowD) && true)) else none) = _
  rw [shp_mem, shp_mem, eqvAll_map rowD eqv_row, eqv_int]
  simp
theorem sh_tups {m : Nat} {ws : List (List Int)} (hm : m ≤ 7) (h : ∀ w ∈ ws, LotIn m w) (hl : ws.length ≤ 1000) : Sh 60 1000000 (.tuple (ws.map rowD)) :=
  (sh_tuple (k := 1) (l := 1000) (w := 80) (fun d hd => by
    obtain ⟨w, hw, rfl⟩ := List.mem_map.mp hd
    exact sh_row (fun x hx => by have := (h w hw).2 x hx; omega) (by have := (h w hw).len; omega)) (by rw [List.length_map]; exact hl)).up (by omega) (by omega)
theorem rg_upto {call : Call} {σ : Ev} {s : Src} {b : Bool} {x : E} {m : Nat} (h : ev call false x σ s = some (.int (m : Int), s)) (hm : m ≤ 1000) : ev call b (.rg1 true x) σ s = some (rowD (upto m), s) := by
  have hr : rangeOk (m : Int) = true := by unfold rangeOk; exact decide_eq_true (by omega)
  unfold ev
  rw [bnd_eq h]
  show (if rangeOk (m : Int) && decide ((m : Int).toNat ≤ lim) then ret (PyData.tuple (rangeD 0 (m : Int))) else stuck) s = _
  rw [if_pos (by rw [hr, decide_eq_true (by unfold lim; omega)]; rfl), range_upto]
  rfl
/-- systems told by rests are equal exactly if their lots are -/
theorem rests_eq {m : Nat} {as bs : List (List Int)} (ha : ∀ w ∈ as, LotIn m w) (hb : ∀ w ∈ bs, LotIn m w) (e : sortR (as.map (restR m)) = sortR (bs.map (restR m))) : ∀ w, w ∈ as ↔ w ∈ bs := by
  have key : ∀ {as bs : List (List Int)}, (∀ w ∈ as, LotIn m w) → (∀ w ∈ bs, LotIn m w) → sortR (as.map (restR m)) = sortR (bs.map (restR m)) → ∀ w, w ∈ as → w ∈ bs := fun {as bs} ha hb e w hw => by
    have : restR m w ∈ sortR (as.map (restR m)) := (sortR_perm _).mem_iff.mpr (List.mem_map.mpr ⟨w, hw, rfl⟩)
    rw [e] at this
    obtain ⟨v, h1, h2⟩ := List.mem_map.mp ((sortR_perm _).mem_iff.mp this)
    rw [restR_inj (ha w hw) (hb v h1) h2.symm]
    exact h1
  exact fun w => ⟨key ha hb e w, key hb ha e.symm w⟩
theorem rest_len {m : Nat} {w : List Int} (h : LotIn m w) : (restR m w).length + w.length = m := by
  have h1 := filter_split (fun x => !decide (x ∈ w)) (upto m)
  rw [upto_len] at h1
  have : ((upto m).filter fun x => !(!decide (x ∈ w))).length = w.length := by
    refine Nat.le_antisymm (List.Nodup.length_le_of_subset ((upto_nodup m).filter _) (l₂ := w) fun x hx => ?_) (List.Nodup.length_le_of_subset h.nodup (l₂ := (upto m).filter fun x => !(!decide (x ∈ w))) fun x hx => ?_)
    · have := (List.mem_filter.mp hx).2
      simpa using this
    · exact List.mem_filter.mpr ⟨mem_upto.mpr (h.2 x hx), by simpa using hx⟩
  unfold restR
  omega
/-- the rank by rests of bases of one size -/
theorem rk_all {m : Nat} {bs : List (List Int)} {k : Nat} (h0 : bs ≠ []) (hb : ∀ b ∈ bs, LotIn m b ∧ b.length = k) : rkS (bs.map (restR m)) (upto m) + k = m := by
  obtain ⟨c, q, e⟩ := rkS_at (bs := bs.map (restR m)) (upto m) (fun h => h0 (List.map_eq_nil_iff.mp h))
  obtain ⟨b, hb1, rfl⟩ := List.mem_map.mp q
  obtain ⟨h1, h2⟩ := hb b hb1
  have h3 := rest_len h1
  have : cut (upto m) (restR m b) = (restR m b).length := by
    unfold cut
    rw [List.filter_eq_self.mpr fun x hx => decide_eq_true (mem_upto.mpr ((restR_lot m b).2 x hx))]
  omega
end Mp

/-! R6: chained comparisons; numbers below one. -/
namespace Mp
open PySem
variable {call : Call} {b : Bool} {σ : Ev} {s s1 s2 s3 : Src}
theorem r_chain {o o' : COp} {x y z : E} {dx dy dz : D} {c c' : Bool} (h1 : ev call false x σ s = some (dx, s1)) (h2 : ev call false y σ s1 = some (dy, s2)) (h3 : cop o dx dy = some c) (h4 : c = true → ev call false z σ s2 = some (dz, s2)) (h5 : c = true → cop o' dy dz = some c') : ev call b (.chain o o' x y z) σ s = some (.bool (c && c'), s2) := by
  unfold ev
  rw [bnd_eq h1]
  rw [bnd_eq h2, lft_eq h3, bnd_ret]
  cases c with
  | false => rfl
  | true =>
    show bnd (ev call false z σ) _ s2 = _
    rw [bnd_eq (h4 rfl), lft_eq (h5 rfl)]
    rfl
theorem r_zipT {x y : E} {ds es : List D} (h1 : ev call b x σ s = some (.tuple ds, s1)) (h2 : ev call b y σ s1 = some (.tuple es, s2)) : evI call b (.zip2 false x y) σ s = some (zipD ds es, s2) := by
  unfold evI
  rw [if_neg (by simp), bnd_eq h1]
  rw [bnd_eq h2]
  rfl
theorem r_zipL {x y : E} {ds es : List D} (h1 : ev call b x σ s = some (.list ds, s1)) (h2 : ev call b y σ s1 = some (.list es, s2)) : evI call b (.zip2 false x y) σ s = some (zipD ds es, s2) := by
  unfold evI
  rw [if_neg (by simp), bnd_eq h1]
  rw [bnd_eq h2]
  rfl
theorem r_nset {x : E} {d d' : D} (h1 : ev call true x σ s = some (d, s1)) (h2 : nsetD d = some d') : ev call b (.nset x) σ s = some (d', s1) := by
  unfold ev
  rw [bnd_eq h1, lft_eq h2]
  rfl
/-- a number below one -/
def numU (d : D) (n : Int) : Bool := match d with
  | .int i => decide (0 ≤ i) && decide (i < n)
  | _ => false
theorem numU_eval {call : Call} {σ : Ev} {s : Src} (d : D) (n : Int) (x : Nat) (y : E) (h1 : ∀ b, ev call b (.var x) σ s = some (d, s)) (h2 : ev call false y σ s = some (.int n, s)) (b : Bool) :
    ev call b (.and_ (.isinst .int (.var x)) (.and_ (.not_ (.isinst .bool (.var x))) (.chain .le .lt (.int 0) (.var x) y))) σ s = some (.bool (numU d n), s) := by
  have a1 : ∀ t, ev call false (.isinst t (.var x)) σ s = some (.bool (isTy t d), s) := fun t => r_isinst (h1 true)
  cases d with
  | int i => exact (r_and (a1 .int) fun _ => r_and (r_not (a1 .bool)) fun _ => r_chain (r_int 0) (h1 false) (cop_le_int _ _) (fun _ => h2) (fun _ => cop_lt_int _ _)).trans rfl
  | bool i => exact (r_and (a1 .int) fun _ => r_and_f (r_not (a1 .bool))).trans rfl
  | none => exact r_and_f (a1 .int)
  | str _ => exact r_and_f (a1 .int)
  | list _ => exact r_and_f (a1 .int)
  | tuple _ => exact r_and_f (a1 .int)
  | dict _ => exact r_and_f (a1 .int)
end Mp

/-! SY1: ascending checks; the exchange of told systems. -/
namespace Mp
open PySem
theorem lexLe_lt : ∀ {a b : List Int}, a < b → lexLe b a = false
  | [], [], h => absurd h (List.lt_irrefl _)
  | [], b :: bs, _ => rfl
  | a :: as, [], h => absurd h (List.not_lt_nil _)
  | a :: as, b :: bs, h => by
    rw [List.cons_lt_cons_iff] at h
    unfold lexLe
    rcases h with h | ⟨rfl, h⟩
    · rw [if_neg (by omega)]
      exact decide_eq_false (by omega)
    · rw [if_pos rfl]
      exact lexLe_lt h
theorem asInts_row (w : List Int) : asInts (w.map .int) = some w := asInts_map w
theorem cop_le_row {a b : List Int} (h : a < b) : cop .le (rowD b) (rowD a) = some false := by
  show (match asInts (b.map .int), asInts (a.map .int) with | some ns, some ms => some (lexLe ns ms) | _, _ => none) = _
  rw [asInts_row, asInts_row]
  show some (lexLe b a) = _
  rw [lexLe_lt h]
theorem r_asc {call : Call} {σ : Ev} {s : Src} {x k : Nat} {α : Type} (φ : α → D) (xs : List α) (hl : xs.length ≤ 100000) (hp : xs.Pairwise fun a b => cop .le (φ b) (φ a) = some false) (hx : ev call true (.var x) σ s = some (.tuple (xs.map φ), s))
    (h : ∀ (i : Int) s, ∃ σ', bindT (.name k) (.int i) (wipeE σ [k]) = some σ' ∧ ev call true (.var x) σ' s = some (.tuple (xs.map φ), s) ∧ ∀ b, ev call b (.var k) σ' s = some (.int i, s)) (b : Bool) :
    ev call b (.cmp .eq (.comp (.var k) (.name k) (.range2 (.int 1) (.bf .len (.cons (.var x) .nil))) (.cmp .le (.idx (.var x) (.var k)) (.idx (.var x) (.bin .sub (.var k) (.int 1)))) [k]) (.lst .nil)) σ s = some (.bool true, s) := by
  have len : bf .len [.tuple (xs.map φ)] = some (.int ((xs.length : Nat) : Int)) := by
    show some (PyData.int ((xs.map φ).length : Nat)) = _
    rw [List.length_map]
  have c1 := r_comp (call := call) (b := false) (elt := .var k) (c := .cmp .le (.idx (.var x) (.var k)) (.idx (.var x) (.bin .sub (.var k) (.int 1)))) (t := .name k) (own := [k]) (σ := σ) (s := s) (s1 := s) (it := .range2 (.int 1) (.bf .len (.cons (.var x) .nil))) PyData.int (fun _ => false) PyData.int ((List.range ((xs.length : Int) - 1).toNat).map fun (j : Nat) => (1 : Int) + (j : Int)) (by
      refine (r_range2 (r_int 1) (r_bf1t hx len rfl) rfl (by unfold rangeOk; exact decide_eq_true (by omega))).trans ?_
      unfold rangeD
      rw [List.map_map]
      rfl) (by rw [List.length_map, List.length_range]; unfold lim; omega) fun i hi s => by
        obtain ⟨j, hj, rfl⟩ := List.mem_map.mp hi
        rw [List.mem_range] at hj
        obtain ⟨σ', e1, e2, e3⟩ := h (1 + (j : Int)) s
        have j1 : j + 1 < xs.length := by omega
        have j0 : j < xs.length := by omega
        have g1 : (xs.map φ)[j + 1]? = some (φ xs[j + 1]) := by rw [List.getElem?_map, List.getElem?_eq_getElem j1]; rfl
        have g0 : (xs.map φ)[j]? = some (φ xs[j]) := by rw [List.getElem?_map, List.getElem?_eq_getElem j0]; rfl
        have i1 : itemAt (.tuple (xs.map φ)) (.int (1 + (j : Int))) = some (φ xs[j + 1]) := by
          have := item_tuple g1
          rwa [show ((j + 1 : Nat) : Int) = 1 + (j : Int) by omega] at this
        have i0 : itemAt (.tuple (xs.map φ)) (.int (1 + (j : Int) - 1)) = some (φ xs[j]) := by
          have := item_tuple g0
          rwa [show (j : Int) = 1 + (j : Int) - 1 by omega] at this
        exact ⟨σ', e1, r_cmp (r_idx e2 (e3 _) i1) (r_idx e2 (r_bin (e3 _) (r_int 1) rfl) i0) (List.pairwise_iff_getElem.mp hp j (j + 1) j0 j1 (by omega)), fun q => absurd q (by simp)⟩
  have f0 : ∀ l : List Int, (l.filter fun _ => false) = [] := fun l => by simp
  rw [f0] at c1
  exact r_cmp c1 r_lst0 (cop_eq_ints0 [])
theorem all_true {α : Type} (w : List α) : bf .all [.list (w.map fun _ => .bool true)] = some (.bool true) := by
  have : asBools (w.map fun _ => PyData.bool true) = some (w.map fun _ => true) := by
    induction w with
    | nil => rfl
    | cons x w ih =>
      show (asBools (w.map fun _ => PyData.bool true)).map (true :: ·) = _
      rw [ih]
      rfl
  show (asBools _).map _ = _
  rw [this]
  simp
/-- rows, unlike, sorted, ascend -/
theorem sortR_asc {ws : List (List Int)} (nd : ws.Nodup) : (sortR ws).Pairwise (· < ·) := by
  have h1 := sortR_sorted ws
  have h2 : (sortR ws).Pairwise (· ≠ ·) := List.nodup_iff_pairwise_ne.mp ((sortR_perm ws).nodup_iff.mpr nd)
  refine (h1.and h2).imp fun {a b} h => ?_
  have : a ≤ b := of_decide_eq_true h.1
  rcases List.le_iff_lt_or_eq.mp this with h' | h'
  · exact h'
  · exact absurd h' h.2
/-- b in a's place -/
def putR (one : List Int) (a b : Int) : List Int := sortI (one.filter (fun x => !decide (x = a)) ++ [b])
/-- the exchange of the told bases: rests of the greatest given lots -/
theorem told_exch {m r : Nat} {lots bs : List (List Int)} (hl : lots.length ≤ 1000) (hll : ∀ l ∈ lots, l.length ≤ 1000) (hbs : ∀ b, b ∈ bs ↔ (LotIn m b ∧ Given lots b) ∧ b.length = r) {one other : List Int} {a : Int}
    (h1 : one ∈ bs.map (restR m)) (h2 : other ∈ bs.map (restR m)) (ha : a ∈ one) (hna : a ∉ other) : ∃ b ∈ other, b ∉ one ∧ putR one a b ∈ bs.map (restR m) := by
  obtain ⟨B1, k1, rfl⟩ := List.mem_map.mp h1
  obtain ⟨B2, k2, rfl⟩ := List.mem_map.mp h2
  obtain ⟨⟨l1, g1⟩, n1⟩ := (hbs B1).mp k1
  obtain ⟨⟨l2, g2⟩, n2⟩ := (hbs B2).mp k2
  rw [mem_restR] at ha hna
  have a2 : a ∈ B2 := by
    by_cases q : a ∈ B2
    · exact q
    · exact absurd ⟨ha.1, q⟩ hna
  have a1 := ha.2
  have nI : (B2.filter fun x => decide (x ∈ B1) || decide (x = a)).Nodup := l2.nodup.filter _
  have mI : ∀ y, y ∈ (B2.filter fun x => decide (x ∈ B1) || decide (x = a)) ↔ y ∈ B2 ∧ (y ∈ B1 ∨ y = a) := fun y => by
    rw [List.mem_filter, Bool.or_eq_true, decide_eq_true_iff, decide_eq_true_iff]
  generalize (B2.filter fun x => decide (x ∈ B1) || decide (x = a)) = I at nI mI
  have gI : Given lots I := g2.sub fun y hy => ((mI y).mp hy).1
  have lI : I.length ≤ B1.length := by
    have := nI.length_le_of_subset (l₂ := B2) fun y hy => ((mI y).mp hy).1
    omega
  obtain ⟨J, nJ, gJ, lJ, IJ, JI⟩ := extend hl hll l1.nodup g1 (B1.length - I.length) I (by omega) nI gI
  have aJ : a ∈ J := IJ a ((mI a).mpr ⟨a2, .inr rfl⟩)
  have Jin : ∀ y ∈ J, y ∈ B1 ∨ y = a := fun y hy => by
    rcases JI y hy with h | h
    · exact ((mI y).mp h).2
    · exact .inl h
  have n1a : (B1 ++ [a]).Nodup := nodup_snoc l1.nodup a1
  obtain ⟨b, hb, hbJ⟩ : ∃ b ∈ B1 ++ [a], b ∉ J := by
    by_cases q : ∃ b ∈ B1 ++ [a], b ∉ J
    · exact q
    · have := n1a.length_le_of_subset (l₂ := J) fun y hy => by
        by_cases z : y ∈ J
        · exact z
        · exact absurd ⟨y, hy, z⟩ q
      rw [List.length_append, List.length_singleton] at this
      omega
  have ba : b ≠ a := fun e => hbJ (e ▸ aJ)
  have b1 : b ∈ B1 := by
    rcases List.mem_append.mp hb with h | h
    · exact h
    · exact absurd (List.mem_singleton.mp h) ba
  have b2 : b ∉ B2 := fun h => hbJ (IJ b ((mI b).mpr ⟨h, .inl b1⟩))
  -- J is B1 with a, without b
  have all : ∀ y, y ∈ B1 ∨ y = a → y ≠ b → y ∈ J := fun y hy hne => by
    by_cases z : y ∈ J
    · exact z
    · have n3 : (J ++ [y] ++ [b]).Nodup := nodup_snoc (nodup_snoc nJ z) fun h => by
        rcases List.mem_append.mp h with h | h
        · exact hbJ h
        · exact hne (List.mem_singleton.mp h).symm
      have := n3.length_le_of_subset (l₂ := B1 ++ [a]) fun u hu => by
        rw [List.mem_append, List.mem_singleton]
        rcases List.mem_append.mp hu with hu | hu
        · rcases List.mem_append.mp hu with hu | hu
          · exact Jin u hu
          · rw [List.mem_singleton.mp hu]; exact hy
        · rw [List.mem_singleton.mp hu]; exact .inl b1
      rw [List.length_append, List.length_append, List.length_append, List.length_singleton, List.length_singleton] at this
      simp at this
      omega
  have rJ : ∀ y ∈ J, 0 ≤ y ∧ y < m := fun y hy => by
    rcases Jin y hy with h | h
    · exact l1.2 y h
    · rw [h]; exact ha.1
  have LJ : LotIn m (sortI J) := sortI_lot nJ rJ
  refine ⟨b, mem_restR.mpr ⟨l1.2 b b1, b2⟩, fun h => (mem_restR.mp h).2 b1, List.mem_map.mpr ⟨sortI J, (hbs _).mpr ⟨⟨LJ, gJ.sub fun y hy => (sortI_perm J).mem_iff.mp hy⟩, by rw [(sortI_perm J).length_eq]; omega⟩, ?_⟩⟩
  have mf : ∀ y, y ∈ (restR m B1).filter (fun x => !decide (x = a)) ++ [b] ↔ (((0 ≤ y ∧ y < m) ∧ y ∉ B1) ∧ y ≠ a) ∨ y = b := fun y => by
    rw [List.mem_append, List.mem_filter, mem_restR, List.mem_singleton]
    simp
  refine asc_unique (restR_lot m _).1 (sortI_lot (m := m) (nodup_snoc ((restR_lot m B1).nodup.filter _) fun h => ?_) fun y hy => ?_).1 fun y => ?_
  · exact (mem_restR.mp (List.mem_filter.mp h).1).2 b1
  · rcases (mf y).mp hy with h | h
    · exact h.1.1
    · rw [h]; exact l1.2 b b1
  · unfold putR
    rw [mem_restR, (sortI_perm J).mem_iff, (sortI_perm _).mem_iff, mf]
    constructor
    · rintro ⟨h, hn⟩
      by_cases e : y = b
      · exact .inr e
      · refine .inl ⟨⟨h, fun h' => hn (all y (.inl h') e)⟩, fun h' => hn (all y (.inr h') e)⟩
    · rintro (⟨⟨h, h'⟩, h''⟩ | h)
      · exact ⟨h, fun q => (Jin y q).elim h' h''⟩
      · rw [h]; exact ⟨l1.2 b b1, hbJ⟩
end Mp

/-! SY2: is_system of told systems. -/
namespace Mp
open PySem
theorem isnum_true (k : Nat) (x m : Int) (s : Src) (h : 0 ≤ x ∧ x < m) : Gives "is_number_under" false (callN Γ (k + 1)) [.int x, .int m] s (.bool true) s :=
  gv (call_def rfl rfl rfl rfl (exs_retv ((numU_eval (.int x) m 0 (.var 1) (fun _ => r_var rfl) (r_var rfl) _).trans (by
    show some (PyData.bool (decide (0 ≤ x) && decide (x < m)), s) = _
    rw [decide_eq_true h.1, decide_eq_true h.2]
    rfl))))
theorem things_lot_ok (k m : Nat) (w : List Int) (s : Src) (h : LotIn m w) (hm : m ≤ 1000) : Gives "is_things_lot" false (callN Γ (k + 2)) [.int m, rowD w] s (.bool true) s := by
  have lw := h.len
  have a1 : ev (callN Γ (k + 1)) false (.not_ (.bf .all (.cons (.comp (.call "is_number_under" .none (.cons (.var 2) (.cons (.var 0) .nil))) (.name 2) (.over (.var 1)) (.bool true) [2]) .nil))) [.frz (.int m), .frz (rowD w), .no, .no] s = some (.bool false, s) :=
    r_not (r_bf1t (r_comp1 PyData.int (fun _ => .bool true) w (r_overT (r_var rfl)) (by unfold lim; omega) fun x hx s => ⟨[.frz (.int m), .frz (rowD w), .frz (.int x), .no], rfl, r_callv (r_es (r_var rfl) (r_es1 (r_var rfl))) (isnum_true k x m s (h.2 x hx)) rfl rfl⟩) (all_true w) rfl)
  exact gv (call_def rfl rfl rfl rfl (exs_no (r_or_ff (r_not (r_isinst (d := rowD w) (r_var rfl))) rfl a1) rfl (exs_retv (r_asc PyData.int w (by omega) (h.1.imp fun {a b} q => (cop_le_int b a).trans (by rw [decide_eq_false (by omega)])) (r_var rfl) (fun i s => ⟨_, rfl, r_var rfl, fun _ => r_var rfl⟩) _))))
theorem lots_form_ok (k m : Nat) (ws : List (List Int)) (s : Src) (hm : 1 ≤ m ∧ m ≤ 1000) (h0 : ws ≠ []) (hl : ws.length ≤ 10000) (hw : ∀ w ∈ ws, LotIn m w) (asc : ws.Pairwise (· < ·)) : Gives "is_lots_form" false (callN Γ (k + 3)) [memD m ws] s (.bool true) s := by
  have a1 : ev (callN Γ (k + 2)) false (.not_ (.bf .all (.cons (.comp (.call "is_things_lot" .none (.cons (.var 1) (.cons (.var 3) .nil))) (.name 3) (.over (.var 2)) (.bool true) [3]) .nil))) [.frz (memD m ws), .frz (.int m), .frz (.tuple (ws.map rowD)), .no, .no] s = some (.bool false, s) :=
    r_not (r_bf1t (r_comp1 rowD (fun _ => .bool true) ws (r_overT (r_var rfl)) (by unfold lim; omega) fun w h s => ⟨[.frz (memD m ws), .frz (.int m), .frz (.tuple (ws.map rowD)), .frz (rowD w), .no], rfl, r_callv (r_es (r_var rfl) (r_es1 (r_var rfl))) (things_lot_ok k m w s (hw w h) hm.2) rfl rfl⟩) (all_true ws) rfl)
  have c0 : ev (callN Γ (k + 2)) false (.or_ (.not_ (.isinst .tuple (.var 0))) (.or_ (.cmp .ne (.bf .len (.cons (.var 0) .nil)) (.int 2)) (.or_ (.not_ (.isinst .tuple (.idx (.var 0) (.int 1)))) (.cmp .eq (.idx (.var 0) (.int 1)) (.tup .nil))))) [.frz (memD m ws), .no, .no, .no, .no] s = some (.bool (decide (ws = [])), s) :=
    r_or_ff (r_not (r_isinst (d := memD m ws) (r_var rfl))) rfl (r_or_ff (r_cmp (r_bf1t (r_var rfl) (rfl : bf .len [memD m ws] = some (.int 2)) rfl) (r_int 2) (rfl : cop .ne (.int 2) (.int 2) = some false)) rfl (r_or_ff (r_not (r_isinst (d := .tuple (ws.map rowD)) (r_idx (r_var rfl) (r_int 1) rfl))) rfl (r_cmp (r_idx (r_var rfl) (r_int 1) rfl) (r_tup r_es0 (Nat.zero_le _)) (cop_eq_tups ws []))))
  have c2 : ev (callN Γ (k + 2)) false (.or_ (.not_ (.isinst .int (.var 1))) (.or_ (.isinst .bool (.var 1)) (.or_ (.cmp .lt (.var 1) (.int 1)) (.not_ (.bf .all (.cons (.comp (.call "is_things_lot" .none (.cons (.var 1) (.cons (.var 3) .nil))) (.name 3) (.over (.var 2)) (.bool true) [3]) .nil)))))) [.frz (memD m ws), .frz (.int m), .frz (.tuple (ws.map rowD)), .no, .no] s = some (.bool false, s) :=
    r_or_ff (r_not (r_isinst (d := .int (m : Int)) (r_var rfl))) rfl (r_or_ff (r_isinst (d := .int (m : Int)) (r_var rfl)) rfl (r_or_ff (r_cmp (r_var rfl) (r_int 1) (cop_lt_int _ _)) (decide_eq_false (by omega)) a1))
  exact gv (call_def rfl rfl rfl rfl (exs_no c0 (decide_eq_false h0) (exs_unpack (r_var rfl) rfl (exs_no c2 rfl (exs_retv (r_asc rowD ws (by omega) (asc.imp fun {a b} q => cop_le_row q) (r_var rfl) (fun i s => ⟨_, rfl, r_var rfl, fun _ => r_var rfl⟩) _))))))
theorem put_for_ok (k : Nat) (one : List Int) (a b : Int) (s : Src) (hl : one.length ≤ 1000) : Gives "put_for" false (callN Γ (k + 1)) [rowD one, .int a, .int b] s (rowD (putR one a b)) s := by
  have fl := List.length_filter_le (fun x => !decide (x = a)) one
  have ad : bop .add (.list ((one.filter fun x => !decide (x = a)).map .int)) (.list [.int b]) = some (.list ((one.filter (fun x => !decide (x = a)) ++ [b]).map .int)) := by
    show (if _ then some (PyData.list (_ ++ [PyData.int b])) else none) = _
    rw [if_pos (by rw [List.length_map, List.length_singleton]; unfold lim; omega), List.map_append]
    rfl
  exact gv (call_def rfl rfl rfl rfl (exs_retv (r_bf1t (r_bf1t (r_bin (r_comp PyData.int (fun x => !decide (x = a)) PyData.int one (r_overT (r_var rfl)) (by unfold lim; omega) fun x hx s => ⟨[.frz (rowD one), .frz (.int a), .frz (.int b), .frz (.int x)], rfl, r_cmp (r_var rfl) (r_var rfl) (cop_ne_int x a), fun _ => r_var rfl⟩) (r_lst (r_es1 (r_var rfl)) (show 1 ≤ lim by decide)) ad) (bf_sorted_ints _ (by rw [List.length_append, List.length_singleton]; unfold lim; omega)) rfl) (bf_tuple_ints _) rfl)))
theorem dputs_rows : ∀ (w : List (List Int)) (kvs : List (List Int × D)), w.Nodup → (∀ x ∈ w, x ∉ kvs.map (·.1)) → kvs.length + w.length ≤ lim →
    dputs (kvD rowD kvs) (w.map fun x => (rowD x, .bool true)) = some (kvD rowD (kvs ++ w.map fun x => (x, .bool true)))
  | [], kvs, _, _, _ => by simp [dputs]
  | x :: w, kvs, nd, h, hl => by
    rw [List.nodup_cons] at nd
    rw [List.length_cons] at hl
    show (if keyFits (kvD rowD kvs) (rowD x) && decide ((kvD rowD kvs).length < lim) then dputs (dput (kvD rowD kvs) (rowD x) (.bool true)) _ else none) = _
    have hk : (kvD rowD kvs).length = kvs.length := by unfold kvD; rw [List.length_map]
    rw [keyFits_map (φ := rowD) true keyOk_row (fun _ => rfl), hk, Bool.true_and, if_pos (decide_eq_true (by omega)), dput_map eqv_row]
    have e : mput kvs x (.bool true) = kvs ++ [(x, .bool true)] := if_neg (h x (.head _))
    rw [e]
    refine (dputs_rows w (kvs ++ [(x, .bool true)]) nd.2 (fun y hy => by
      rw [List.map_append, List.mem_append]
      rintro (h1 | h1)
      · exact h y (.tail _ hy) h1
      · rw [List.map_cons, List.map_nil, List.mem_singleton] at h1
        exact nd.1 ((show y = x from h1) ▸ hy)) (by rw [List.length_append, List.length_singleton]; omega)).trans ?_
    rw [List.append_assoc]
    rfl
theorem as_pairsR (w : List (List Int)) : asPairs (w.map fun x => .tuple [rowD x, .bool true]) = some (w.map fun x => (rowD x, .bool true)) := by
  induction w with
  | nil => rfl
  | cons x w ih =>
    show (asPairs (w.map fun x => .tuple [rowD x, .bool true])).map _ = _
    rw [ih]
    rfl
theorem known_dict (ws : List (List Int)) (nd : ws.Nodup) (hl : ws.length ≤ 10000) : ∃ kvs, bf .dict [.list (ws.map fun x => .tuple [rowD x, .bool true])] = some (.dict kvs) ∧ ∀ w, cop .isin (rowD w) (.dict kvs) = some (decide (w ∈ ws)) := by
  refine ⟨kvD rowD (ws.map fun x => (x, .bool true)), ?_, fun w => ?_⟩
  · show (asPairs _).bind (fun kvs => (dputs [] kvs).map PyData.dict) = _
    rw [as_pairsR]
    show (dputs (kvD rowD []) _).map PyData.dict = _
    rw [dputs_rows ws [] nd (fun x _ h => absurd h (by simp)) (by rw [List.length_nil]; unfold lim; omega)]
    rfl
  · show (if keyFits (kvD rowD (ws.map fun x => (x, PyData.bool true))) (rowD w) then some (dhas (kvD rowD (ws.map fun x => (x, PyData.bool true))) (rowD w)) else none) = _
    rw [keyFits_map (φ := rowD) true keyOk_row (fun _ => rfl), dhas_map eqv_row, List.map_map]
    simp
def sB : Ss := (.cons (.if_ (.cmp .ne (.bf .len (.cons (.var 4) .nil)) (.bf .len (.cons (.idx (.var 1) (.int 0)) .nil))) (.cons (.ret (.tup (.cons (.str (sN "sizes")) (.cons (.idx (.var 1) (.int 0)) (.cons (.var 4) .nil))))) .nil) .nil) .nil)
def aB : Ss := (.cons (.if_ (.cmp .eq (.comp (.var 7) (.name 7) (.over (.var 5)) (.and_ (.cmp .notin (.var 7) (.var 4)) (.cmp .isin (.call "put_for" .none (.cons (.var 4) (.cons (.var 6) (.cons (.var 7) .nil)))) (.var 2))) [7]) (.lst .nil)) (.cons (.ret (.tup (.cons (.str (sN "exchange")) (.cons (.var 4) (.cons (.var 5) (.cons (.var 6) .nil)))))) .nil) .nil) .nil)
def oB : Ss := (.cons (.for_ (.name 6) (.over (.comp (.var 6) (.name 6) (.over (.var 4)) (.cmp .notin (.var 6) (.var 5)) [6])) [1, 2, 4, 5, 6, 7] aB) .nil)
def eB : Ss := (.cons (.for_ (.name 5) (.over (.var 1)) [1, 2, 4, 6, 7] oB) .nil)
theorem system_paper_ok (k m r : Nat) (ws : List (List Int)) (s : Src) (hm : m ≤ 1000) (h0 : ws ≠ []) (hl : ws.length ≤ 10000) (hw : ∀ w ∈ ws, LotIn m w) (nd : ws.Nodup) (hr : ∀ w ∈ ws, w.length = r)
    (ex : ∀ one ∈ ws, ∀ other ∈ ws, ∀ a ∈ one, a ∉ other → ∃ b ∈ other, b ∉ one ∧ putR one a b ∈ ws) : Gives "system_paper" false (callN Γ (k + 2)) [memD m ws] s (.tuple [.str (sN "system")]) s := by
  obtain ⟨kvs, d1, d2⟩ := known_dict ws nd hl
  have c1 : ev (callN Γ (k + 1)) true (.comp (.tup (.cons (.var 3) (.cons (.bool true) .nil))) (.name 3) (.over (.var 1)) (.bool true) [3]) [.frz (memD m ws), .frz (.tuple (ws.map rowD)), .no, .no, .no, .no, .no, .no] s = some (.list (ws.map fun x => .tuple [rowD x, .bool true]), s) :=
    r_comp1 rowD (fun x => .tuple [rowD x, .bool true]) ws (r_overT (r_var rfl)) (by unfold lim; omega) fun w h s => ⟨[.frz (memD m ws), .frz (.tuple (ws.map rowD)), .no, .frz (rowD w), .no, .no, .no, .no], rfl, r_tup (r_es (r_var rfl) (r_es1 (r_bool true))) (show 2 ≤ lim by decide)⟩
  obtain ⟨w0, hw0⟩ : ∃ w0, ws[0]? = some w0 := by
    cases ws with
    | nil => exact absurd rfl h0
    | cons w _ => exact ⟨w, rfl⟩
  have i0 : itemAt (.tuple (ws.map rowD)) (.int 0) = some (rowD w0) := item_tuple (j := 0) (by rw [List.getElem?_map, hw0]; rfl)
  obtain ⟨σ1, t1, rfl⟩ := exs_forI (call := callN Γ (k + 1)) (fuel := fuelW) (t := .name 4) (it := .over (.var 1)) (keep := [1, 2, 6, 7]) (body := sB) (σ := [.frz (memD m ws), .frz (.tuple (ws.map rowD)), .frz (.dict kvs), .no, .no, .no, .no, .no]) (s := s) (s1 := s) rowD ws
    (fun _ σ => σ = [.no, .frz (.tuple (ws.map rowD)), .frz (.dict kvs), .no, .no, .no, .no, .no]) rfl (r_overT (r_var rfl)) rfl (by
      rintro j w σ hj rfl
      refine ⟨[.no, .frz (.tuple (ws.map rowD)), .frz (.dict kvs), .no, .frz (rowD w), .no, .no, .no], _, rfl, exs_step (q_no (r_cmp (r_bf1t (r_var rfl) (bf_len_row w) rfl) (r_bf1t (r_idx (r_var rfl) (r_int 0) i0) (bf_len_row w0) rfl) (cop_ne_int _ _)) ?_) exs_nil, rfl⟩
      rw [hr w (List.mem_of_getElem? hj), hr w0 (List.mem_of_getElem? hw0)]
      simp)
  obtain ⟨σ2, t2, x6, rfl⟩ := exs_forI (call := callN Γ (k + 1)) (fuel := fuelW) (t := .name 4) (it := .over (.var 1)) (keep := [1, 2, 6, 7]) (body := eB) (σ := [.no, .frz (.tuple (ws.map rowD)), .frz (.dict kvs), .no, .no, .no, .no, .no]) (s := s) (s1 := s) rowD ws
    (fun _ σ => ∃ x6, σ = [.no, .frz (.tuple (ws.map rowD)), .frz (.dict kvs), .no, .no, .no, x6, .no]) rfl (r_overT (r_var rfl)) ⟨.no, rfl⟩ (by
      rintro j one σ hj ⟨x6, rfl⟩
      have m1 := List.mem_of_getElem? hj
      have l1 := (hw one m1).len
      obtain ⟨σ3, t3, x7, rfl⟩ := exs_forI (call := callN Γ (k + 1)) (fuel := fuelW) (t := .name 5) (it := .over (.var 1)) (keep := [1, 2, 4, 6, 7]) (body := oB) (σ := [.no, .frz (.tuple (ws.map rowD)), .frz (.dict kvs), .no, .frz (rowD one), .no, x6, .no]) (s := s) (s1 := s) rowD ws
        (fun _ σ => ∃ x6, σ = [.no, .frz (.tuple (ws.map rowD)), .frz (.dict kvs), .no, .frz (rowD one), .no, x6, .no]) rfl (r_overT (r_var rfl)) ⟨x6, rfl⟩ (by
          rintro j2 other σ hj2 ⟨x6, rfl⟩
          have m2 := List.mem_of_getElem? hj2
          have l2 := (hw other m2).len
          obtain ⟨σ4, t4, x8, rfl⟩ := exs_forI (call := callN Γ (k + 1)) (fuel := fuelW) (t := .name 6) (it := .over (.comp (.var 6) (.name 6) (.over (.var 4)) (.cmp .notin (.var 6) (.var 5)) [6])) (keep := [1, 2, 4, 5, 6, 7]) (body := aB) (σ := [.no, .frz (.tuple (ws.map rowD)), .frz (.dict kvs), .no, .frz (rowD one), .frz (rowD other), x6, .no]) (s := s) (s1 := s) PyData.int (one.filter fun a => !decide (a ∈ other))
            (fun _ σ => ∃ x6, σ = [.no, .frz (.tuple (ws.map rowD)), .frz (.dict kvs), .no, .frz (rowD one), .frz (rowD other), x6, .no]) rfl (r_over (r_comp PyData.int (fun a => !decide (a ∈ other)) PyData.int one (r_overT (r_var rfl)) (by unfold lim; omega) fun a ha s => ⟨[.no, .frz (.tuple (ws.map rowD)), .frz (.dict kvs), .no, .frz (rowD one), .frz (rowD other), .frz (.int a), .no], rfl, r_cmp (r_var rfl) (r_var rfl) (notin_row _ _), fun _ => r_var rfl⟩)) ⟨x6, rfl⟩ (by
              rintro j3 a σ hj3 ⟨x6, rfl⟩
              obtain ⟨a1, a2⟩ := List.mem_filter.mp (List.mem_of_getElem? hj3)
              have a3 : a ∉ other := by simpa using a2
              obtain ⟨b, b1, b2, b3⟩ := ex one m1 other m2 a a1 a3
              have cc : ev (callN Γ (k + 1)) false (.comp (.var 7) (.name 7) (.over (.var 5)) (.and_ (.cmp .notin (.var 7) (.var 4)) (.cmp .isin (.call "put_for" .none (.cons (.var 4) (.cons (.var 6) (.cons (.var 7) .nil)))) (.var 2))) [7]) [.no, .frz (.tuple (ws.map rowD)), .frz (.dict kvs), .no, .frz (rowD one), .frz (rowD other), .frz (.int a), .no] s = some (.list ((other.filter fun b => !decide (b ∈ one) && decide (putR one a b ∈ ws)).map .int), s) :=
                r_comp PyData.int (fun b => !decide (b ∈ one) && decide (putR one a b ∈ ws)) PyData.int other (r_overT (r_var rfl)) (by unfold lim; omega) fun b hb s => ⟨[.no, .frz (.tuple (ws.map rowD)), .frz (.dict kvs), .no, .frz (rowD one), .frz (rowD other), .frz (.int a), .frz (.int b)], rfl, r_and (r_cmp (r_var rfl) (r_var rfl) (notin_row _ _)) fun _ => r_cmp (r_callv (r_es (r_var rfl) (r_es (r_var rfl) (r_es1 (r_var rfl)))) (put_for_ok k one a b s (by omega)) rfl rfl) (r_var rfl) (d2 _), fun _ => r_var rfl⟩
              refine ⟨_, _, rfl, exs_step (q_no (r_cmp cc r_lst0 (cop_eq_ints0 _)) (decide_eq_false fun h => ?_)) exs_nil, _, rfl⟩
              have : b ∈ other.filter fun b => !decide (b ∈ one) && decide (putR one a b ∈ ws) := List.mem_filter.mpr ⟨b1, by simp [b2, b3]⟩
              rw [h] at this
              exact absurd this (by simp))
          exact ⟨_, _, rfl, exs_step t4 exs_nil, x8, rfl⟩)
      exact ⟨_, _, rfl, exs_step t3 exs_nil, x7, rfl⟩)
  exact gv (call_def rfl rfl rfl rfl (exs_assign (r_idx (r_var rfl) (r_int 1) rfl) rfl (exs_assign (r_bf1t c1 d1 rfl) rfl (exs_step t1 (exs_step t2 (exs_retv (r_tup (r_es1 (r_str _)) (show 1 ≤ lim by decide))))))))
theorem issystem_ok (k m r : Nat) (ws : List (List Int)) (s : Src) (hm : 1 ≤ m ∧ m ≤ 1000) (h0 : ws ≠ []) (hl : ws.length ≤ 10000) (hw : ∀ w ∈ ws, LotIn m w) (asc : ws.Pairwise (· < ·)) (hr : ∀ w ∈ ws, w.length = r)
    (ex : ∀ one ∈ ws, ∀ other ∈ ws, ∀ a ∈ one, a ∉ other → ∃ b ∈ other, b ∉ one ∧ putR one a b ∈ ws) : Gives "is_system" false (callN Γ (k + 4)) [memD m ws] s (.bool true) s :=
  gv (call_def rfl rfl rfl rfl (exs_retv (r_and_t (r_callv (r_es1 (r_var rfl)) (lots_form_ok k m ws s hm h0 hl hw asc) rfl rfl) (r_cmp (r_callv (r_es1 (r_var rfl)) (system_paper_ok (k + 1) m r ws s hm.2 h0 hl hw (List.nodup_iff_pairwise_ne.mpr (asc.imp fun {a b} q e => by subst e; exact List.lt_irrefl _ q)) hr ex) rfl rfl) (r_tup (r_es1 (r_str _)) (show 1 ≤ lim by decide)) (by decide +kernel)))))
end Mp

/-! R9: loops that may return. -/
namespace Mp
open PySem
/-- what is found first -/
def FoundIn {α : Type} (g : α → Option D) (xs : List α) (r : Option (Fl × Src)) (s : Src) (Q : Ev → Prop) : Prop :=
  match xs.findSome? g with
  | some d => r = some (.ret d, s)
  | none => ∃ σ', r = some (.next σ', s) ∧ Q σ'
theorem loop_pick {α : Type} {f : D → Ev → M Fl} (φ : α → D) (g : α → Option D) (Q : Ev → Prop) (s : Src) : ∀ (xs : List α) (σ : Ev), Q σ → (∀ x ∈ xs, ∀ σ, Q σ → match g x with
      | some d => f (φ x) σ s = some (.ret d, s)
      | none => ∃ σ2, f (φ x) σ s = some (.next σ2, s) ∧ Q σ2) → FoundIn g xs (forLoop f (xs.map φ) σ s) s Q
  | [], σ, q, _ => ⟨σ, rfl, q⟩
  | x :: xs, σ, q, h => by
    have h0 := h x (.head _) σ q
    unfold FoundIn
    rw [List.findSome?_cons]
    cases e : g x with
    | some d =>
      rw [e] at h0
      show bnd (f (φ x) σ) _ s = _
      rw [bnd_eq h0]
      rfl
    | none =>
      rw [e] at h0
      obtain ⟨σ2, e2, q2⟩ := h0
      have ih := loop_pick φ g Q s xs σ2 q2 fun y hy => h y (.tail _ hy)
      have e3 : forLoop f ((x :: xs).map φ) σ s = forLoop f (xs.map φ) σ2 s := by
        show bnd (f (φ x) σ) _ s = _
        rw [bnd_eq e2]
      rw [e3]
      exact ih
theorem for_pick {α : Type} {call : Call} {fuel : Nat} {t : T} {it : I} {keep : List Nat} {body : Ss} {σ : Ev} {s : Src} (φ : α → D) (g : α → Option D) (Q : Ev → Prop) {xs : List α} (hl : wantsLock it σ = false) (hi : evI call false it σ s = some (xs.map φ, s)) (q0 : Q (keepF keep 0 σ))
    (step : ∀ x ∈ xs, ∀ σ, Q σ → ∃ σ1, bindT t (φ x) σ = some σ1 ∧ match g x with
      | some d => execs call fuel body σ1 s = some (.ret d, s)
      | none => ∃ σ2, execs call fuel body σ1 s = some (.next σ2, s) ∧ Q (keepF keep 0 σ2)) :
    FoundIn g xs (exec call fuel (.for_ t it keep body) σ s) s Q := by
  have p := loop_pick (f := fun d σ1 => bnd (lft (bindT t d σ1)) fun σ2 => bnd (execs call fuel body σ2) fun fl => match fl with
      | .next σ3 => ret (.next (keepE keep σ3))
      | .ret x => ret (.ret x)) φ g Q s xs (keepE keep σ) (by rw [keepF_eq]; exact q0) fun x hx σ q => by
    obtain ⟨σ1, e1, h⟩ := step x hx σ q
    cases e : g x with
    | some d =>
      rw [e] at h
      show bnd (lft (bindT t (φ x) σ)) _ s = _
      rw [lft_eq e1, bnd_ret, bnd_eq h]
      rfl
    | none =>
      rw [e] at h
      obtain ⟨σ2, e2, q2⟩ := h
      refine ⟨keepE keep σ2, ?_, by rw [keepF_eq]; exact q2⟩
      show bnd (lft (bindT t (φ x) σ)) _ s = _
      rw [lft_eq e1, bnd_ret, bnd_eq e2]
      rfl
  have e : exec call fuel (.for_ t it keep body) σ s = forLoop (fun d σ1 => bnd (lft (bindT t d σ1)) fun σ2 => bnd (execs call fuel body σ2) fun fl => match fl with
      | .next σ3 => ret (.next (keepE keep σ3))
      | .ret x => ret (.ret x)) (xs.map φ) (keepE keep σ) s := by
    show (if wantsLock it σ then stuck else bnd (evI call false it σ) _) s = _
    rw [hl]
    exact (bnd_eq hi).trans rfl
  rw [e]
  exact p
/-- a loop, then the rest -/
theorem exs_pick {α : Type} {call : Call} {fuel : Nat} {a : S} {r : Ss} {σ : Ev} {s : Src} {g : α → Option D} {Q : Ev → Prop} {xs : List α} {z : D} (h : FoundIn g xs (exec call fuel a σ s) s Q) (hr : ∀ σ', Q σ' → execs call fuel r σ' s = some (.ret z, s)) : execs call fuel (.cons a r) σ s = some (.ret ((xs.findSome? g).getD z), s) := by
  unfold FoundIn at h
  cases e : xs.findSome? g with
  | some d =>
    rw [e] at h
    exact exs_ret h
  | none =>
    rw [e] at h
    obtain ⟨σ', h1, q⟩ := h
    exact exs_step h1 (hr σ' q)
/-- a loop that is all of a body -/
theorem found_body {α : Type} {call : Call} {fuel : Nat} {a : S} {σ : Ev} {s : Src} {g : α → Option D} {Q Q2 : Ev → Prop} {xs : List α} {keep : List Nat} (h : FoundIn g xs (exec call fuel a σ s) s Q) (hq : ∀ σ', Q σ' → Q2 (keepF keep 0 σ')) : match xs.findSome? g with
    | some d => execs call fuel (.cons a .nil) σ s = some (.ret d, s)
    | none => ∃ σ2, execs call fuel (.cons a .nil) σ s = some (.next σ2, s) ∧ Q2 (keepF keep 0 σ2) := by
  unfold FoundIn at h
  cases e : xs.findSome? g with
  | some d =>
    rw [e] at h
    exact exs_ret h
  | none =>
    rw [e] at h
    obtain ⟨σ', h1, q⟩ := h
    exact ⟨σ', exs_step h1 exs_nil, hq σ' q⟩
end Mp

/-! R8: greatest lengths, lists of numbers added, counts. -/
namespace Mp
open PySem
theorem max_len {call : Call} {σ : Ev} {s : Src} {x : Nat} {it : I} {c : E} {own : List Nat} {ks : List (List Int)} {r : Int} (p : List Int → Bool) (hi : evI call true it σ s = some (ks.map rowD, s)) (hl : ks.length ≤ 1000) (h1 : ∃ w ∈ ks, p w = true ∧ (w.length : Int) = r) (h2 : ∀ w ∈ ks, p w = true → (w.length : Int) ≤ r)
    (h : ∀ w ∈ ks, ∀ s, ∃ σ', bindT (.name x) (rowD w) (wipeE σ own) = some σ' ∧ ev call false c σ' s = some (.bool (p w), s) ∧ ev call true (.var x) σ' s = some (rowD w, s)) (b : Bool) :
    ev call b (.bf .max1 (.cons (.comp (.bf .len (.cons (.var x) .nil)) (.name x) it c own) .nil)) σ s = some (.int r, s) := by
  have c1 : ev call true (.comp (.bf .len (.cons (.var x) .nil)) (.name x) it c own) σ s = some (.list (((ks.filter p).map fun w => (w.length : Int)).map .int), s) := by
    rw [List.map_map]
    exact r_comp rowD p (fun w => .int (w.length : Nat)) ks hi (by unfold lim; omega) fun w hw s => by
      obtain ⟨σ', e1, e2, e3⟩ := h w hw s
      exact ⟨σ', e1, e2, fun _ => r_bf1t e3 (bf_len_row w) rfl⟩
  refine r_bf1t c1 (bf_max_ints ?_ fun y hy => ?_) rfl
  · obtain ⟨w, a, b, c⟩ := h1
    exact List.mem_map.mpr ⟨w, List.mem_filter.mpr ⟨a, b⟩, c⟩
  · obtain ⟨w, a, rfl⟩ := List.mem_map.mp hy
    exact h2 w (List.mem_filter.mp a).1 (List.mem_filter.mp a).2
theorem bop_add_ints (a b : List Int) (h : a.length + b.length ≤ lim) : bop .add (.list (a.map .int)) (.list (b.map .int)) = some (.list ((a ++ b).map .int)) := by
  show (if _ then _ else _) = _
  rw [if_pos (by rw [List.length_map, List.length_map]; exact h)]
  rw [List.map_append]
theorem r_count {call : Call} {b : Bool} {σ : Ev} {s s1 s2 : Src} {x y : E} {ns : List Int} {i : Int} (h1 : ev call true x σ s = some (.list (ns.map .int), s1)) (h2 : ev call false y σ s1 = some (.int i, s2)) : ev call b (.me1 .count x y) σ s = some (.int (ns.count i : Nat), s2) := by
  show bnd (ev call true x σ) _ s = _
  rw [bnd_eq h1]
  rw [bnd_eq h2]
  show lft ((asInts (ns.map .int)).map fun ns => PyData.int (ns.count i)) s2 = _
  rw [asInts_map]
  rfl
theorem in_lotsL (w : List Int) (ws : List (List Int)) : cop .isin (rowD w) (waysD ws) = some (decide (w ∈ ws)) := (inSeq_map (k := 1) rowD eqv_row (fun a => pl_row a) (by omega) w ws).trans (by simp)
end Mp

set_option maxHeartbeats 4000000
/-! X1: systems: free lots that grow by greater ones; ranks, rests, exchange. -/
namespace Mp
structure Mat (Ind : List Int → Prop) : Prop where
  nil : Ind []
  sub : ∀ {I J : List Int}, I.Nodup → J.Nodup → Ind J → (∀ x ∈ I, x ∈ J) → Ind I
  aug : ∀ {I J : List Int}, I.Nodup → J.Nodup → Ind I → Ind J → I.length < J.length → ∃ x ∈ J, x ∉ I ∧ Ind (I ++ [x])
theorem Mat.grow {Ind : List Int → Prop} (M : Mat Ind) {J : List Int} (nJ : J.Nodup) (hJ : Ind J) : ∀ (k : Nat) (I : List Int), J.length = I.length + k → I.Nodup → Ind I → ∃ K : List Int, K.Nodup ∧ Ind K ∧ K.length = J.length ∧ (∀ y ∈ I, y ∈ K) ∧ ∀ y ∈ K, y ∈ I ∨ y ∈ J
  | 0, I, e, nI, hI => ⟨I, nI, hI, by omega, fun y h => h, fun y h => .inl h⟩
  | k + 1, I, e, nI, hI => by
    obtain ⟨x, h1, h2, h3⟩ := M.aug nI nJ hI hJ (by omega)
    obtain ⟨K, q1, q2, q3, q4, q5⟩ := M.grow nJ hJ k (I ++ [x]) (by rw [List.length_append, List.length_singleton]; omega) (nodup_snoc nI h2) h3
    refine ⟨K, q1, q2, q3, fun y hy => q4 y (List.mem_append_left _ hy), fun y hy => ?_⟩
    rcases q5 y hy with h | h
    · rcases List.mem_append.mp h with h | h
      · exact .inl h
      · rw [List.mem_singleton.mp h]; exact .inr h1
    · exact .inr h
theorem given_mat {lots : List (List Int)} (hl : lots.length ≤ 1000) (hll : ∀ l ∈ lots, l.length ≤ 1000) : Mat (Given lots) where
  nil := ⟨fun _ => 0, fun x hx => absurd hx (by simp), fun x hx => absurd hx (by simp)⟩
  sub _ _ h hs := h.sub hs
  aug n1 n2 g1 g2 hlt := exchange n1 n2 g1 g2 hlt hl hll
/-- a system: the greatest free lots -/
structure Sys (m r : Nat) (Ind : List Int → Prop) (bs : List (List Int)) : Prop where
  mat : Mat Ind
  mem : ∀ w, w ∈ bs ↔ LotIn m w ∧ Ind w ∧ w.length = r
  max : ∀ w, LotIn m w → Ind w → w.length ≤ r
  ne : bs ≠ []
section
variable {m r : Nat} {Ind : List Int → Prop} {bs : List (List Int)} (S : Sys m r Ind bs)
include S
theorem Sys.some : ∃ b, LotIn m b ∧ Ind b ∧ b.length = r := by
  obtain ⟨b, hb⟩ := List.exists_mem_of_ne_nil _ S.ne
  exact ⟨b, (S.mem b).mp hb⟩
/-- free lots lie in bases -/
theorem Sys.base {I : List Int} (nI : I.Nodup) (rI : ∀ x ∈ I, 0 ≤ x ∧ x < m) (hI : Ind I) : ∃ b ∈ bs, ∀ x ∈ I, x ∈ b := by
  obtain ⟨b, b1, b2, b3⟩ := S.some
  have le := S.max _ (sortI_lot nI rI) (S.mat.sub ((sortI_perm I).nodup_iff.mpr nI) nI hI fun x hx => (sortI_perm I).mem_iff.mp hx)
  rw [(sortI_perm I).length_eq] at le
  obtain ⟨K, q1, q2, q3, q4, q5⟩ := S.mat.grow b1.nodup b2 (b.length - I.length) I (by omega) nI hI
  have rK : ∀ x ∈ K, 0 ≤ x ∧ x < m := fun x hx => (q5 x hx).elim (rI x) fun h => b1.2 x h
  refine ⟨sortI K, (S.mem _).mpr ⟨sortI_lot q1 rK, S.mat.sub ((sortI_perm K).nodup_iff.mpr q1) q1 q2 fun x hx => (sortI_perm K).mem_iff.mp hx, by rw [(sortI_perm K).length_eq, q3, b3]⟩, fun x hx => (sortI_perm K).mem_iff.mpr (q4 x hx)⟩
/-- ranks are lengths of greatest free lots -/
theorem Sys.rk_ge {I L : List Int} (nI : I.Nodup) (rI : ∀ x ∈ I, 0 ≤ x ∧ x < m) (hI : Ind I) (sub : ∀ x ∈ I, x ∈ L) : I.length ≤ rkS bs L := by
  obtain ⟨b, hb, h⟩ := S.base nI rI hI
  refine Nat.le_trans ?_ (rkS_le hb)
  unfold cut
  exact List.Nodup.length_le_of_subset nI fun x hx => List.mem_filter.mpr ⟨h x hx, decide_eq_true (sub x hx)⟩
theorem Sys.rk_ex (L : List Int) : ∃ I : List Int, I.Nodup ∧ (∀ x ∈ I, x ∈ L) ∧ (∀ x ∈ I, 0 ≤ x ∧ x < m) ∧ Ind I ∧ I.length = rkS bs L := by
  obtain ⟨b, hb, e⟩ := rkS_at L S.ne
  obtain ⟨b1, b2, _⟩ := (S.mem b).mp hb
  exact ⟨b.filter fun y => decide (y ∈ L), b1.nodup.filter _, fun x hx => of_decide_eq_true (List.mem_filter.mp hx).2, fun x hx => b1.2 x (List.mem_filter.mp hx).1, S.mat.sub (b1.nodup.filter _) b1.nodup b2 fun x hx => (List.mem_filter.mp hx).1, e⟩
theorem Sys.rk_mono {L M : List Int} (h : ∀ x ∈ L, x ∈ M) : rkS bs L ≤ rkS bs M := by
  obtain ⟨I, h1, h2, h3, h4, h5⟩ := S.rk_ex L
  rw [← h5]
  exact S.rk_ge h1 h3 h4 fun x hx => h x (h2 x hx)
/-- exchange -/
theorem Sys.exch {one other : List Int} (h1 : one ∈ bs) (h2 : other ∈ bs) {a : Int} (ha : a ∈ one) (hn : a ∉ other) : ∃ b ∈ other, b ∉ one ∧ putR one a b ∈ bs := by
  obtain ⟨o1, o2, o3⟩ := (S.mem one).mp h1
  obtain ⟨p1, p2, p3⟩ := (S.mem other).mp h2
  have nI : (one.filter fun x => !decide (x = a)).Nodup := o1.nodup.filter _
  have mI : ∀ y, y ∈ (one.filter fun x => !decide (x = a)) ↔ y ∈ one ∧ y ≠ a := fun y => by
    rw [List.mem_filter]
    simp
  have lI : (one.filter fun x => !decide (x = a)).length + 1 = r := by
    have e : one.erase a = one.filter fun x => !decide (x = a) := by
      rw [List.Nodup.erase_eq_filter o1.nodup]
      exact List.filter_congr fun x _ => by rw [bne, Bool.beq_eq_decide_eq]
    rw [← e, List.length_erase_of_mem ha, o3]
    have := List.length_pos_of_mem ha
    omega
  have hI : Ind (one.filter fun x => !decide (x = a)) := S.mat.sub nI o1.nodup o2 fun x hx => ((mI x).mp hx).1
  obtain ⟨x, x1, x2, x3⟩ := S.mat.aug nI p1.nodup hI p2 (by omega)
  have xa : x ≠ a := fun e => hn (e ▸ x1)
  have xo : x ∉ one := fun h => x2 ((mI x).mpr ⟨h, xa⟩)
  have nJ := nodup_snoc nI x2
  refine ⟨x, x1, xo, (S.mem _).mpr ?_⟩
  unfold putR
  refine ⟨sortI_lot nJ fun y hy => ?_, S.mat.sub ((sortI_perm _).nodup_iff.mpr nJ) nJ x3 fun y hy => (sortI_perm _).mem_iff.mp hy, ?_⟩
  · rcases List.mem_append.mp hy with h | h
    · exact o1.2 y ((mI y).mp h).1
    · rw [List.mem_singleton.mp h]
      exact p1.2 x x1
  · rw [(sortI_perm _).length_eq, List.length_append, List.length_singleton]
    exact lI
omit S in
theorem restR_len {m : Nat} {b : List Int} (hb : LotIn m b) : (restR m b).length + b.length = m := by
  have sp := filter_split (fun x => decide (x ∈ b)) (upto m)
  rw [upto_len] at sp
  have e : ((upto m).filter fun x => decide (x ∈ b)).length = b.length := by
    have h1 := List.Nodup.length_le_of_subset ((upto_nodup m).filter fun x => decide (x ∈ b)) (l₂ := b) fun x hx => of_decide_eq_true (List.mem_filter.mp hx).2
    have h2 := List.Nodup.length_le_of_subset hb.nodup (l₂ := (upto m).filter fun x => decide (x ∈ b)) fun x hx => List.mem_filter.mpr ⟨mem_upto.mpr (hb.2 x hx), decide_eq_true hx⟩
    omega
  unfold restR
  omega
/-- free in the rest: some base lies off it -/
def IndD (m r : Nat) (Ind : List Int → Prop) (X : List Int) : Prop := (∀ x ∈ X, 0 ≤ x ∧ x < (m : Int)) ∧ ∃ b : List Int, LotIn m b ∧ Ind b ∧ b.length = r ∧ ∀ x ∈ X, x ∉ b
theorem Sys.matD : Mat (IndD m r Ind) where
  nil := by
    obtain ⟨b, b1, b2, b3⟩ := S.some
    exact ⟨fun x hx => absurd hx (by simp), b, b1, b2, b3, fun x hx => absurd hx (by simp)⟩
  sub _ _ := fun ⟨h0, b, b1, b2, b3, b4⟩ hs => ⟨fun x hx => h0 x (hs x hx), b, b1, b2, b3, fun x hx => b4 x (hs x hx)⟩
  aug {X Y} nX nY := fun ⟨hX, A, a1, a2, a3, a4⟩ ⟨hY, B, b1, b2, b3, b4⟩ lt => by
    -- B off X, grown within the rest of X
    have nI : (B.filter fun x => !decide (x ∈ X)).Nodup := b1.nodup.filter _
    have mI : ∀ y, y ∈ (B.filter fun x => !decide (x ∈ X)) ↔ y ∈ B ∧ y ∉ X := fun y => by
      rw [List.mem_filter]
      simp
    have hI : Ind (B.filter fun x => !decide (x ∈ X)) := S.mat.sub nI b1.nodup b2 fun x hx => ((mI x).mp hx).1
    have lI : (B.filter fun x => !decide (x ∈ X)).length ≤ B.length := List.length_filter_le _ _
    obtain ⟨K, q1, q2, q3, q4, q5⟩ := S.mat.grow a1.nodup a2 (A.length - (B.filter fun x => !decide (x ∈ X)).length) _ (by omega) nI hI
    have rK : ∀ x ∈ K, 0 ≤ x ∧ x < (m : Int) := fun x hx => (q5 x hx).elim (fun h => b1.2 x ((mI x).mp h).1) fun h => a1.2 x h
    have offX : ∀ x ∈ X, x ∉ K := fun x hx hK => (q5 x hK).elim (fun h => ((mI x).mp h).2 hx) fun h => a4 x hx h
    refine Classical.byContradiction fun no => ?_
    have all : ∀ y ∈ Y, y ∉ X → y ∈ K := fun y hy hn => Classical.byContradiction fun hk => no ⟨y, hy, hn, fun x hx => (List.mem_append.mp hx).elim (hX x) fun h => by rw [List.mem_singleton.mp h]; exact hY y hy, sortI K, sortI_lot q1 rK, S.mat.sub ((sortI_perm K).nodup_iff.mpr q1) q1 q2 fun x hx => (sortI_perm K).mem_iff.mp hx, by rw [(sortI_perm K).length_eq, q3, a3], fun x hx hxk => by
      have hxk := (sortI_perm K).mem_iff.mp hxk
      rcases List.mem_append.mp hx with h | h
      · exact offX x h hxk
      · rw [List.mem_singleton.mp h] at hxk
        exact hk hxk⟩
    -- counts
    have s1 := filter_split (fun x => decide (x ∈ X)) B
    have s2 := filter_split (fun y => decide (y ∈ X)) Y
    have s3 := filter_split (fun x => decide (x ∈ Y)) X
    have c1 : (B.filter fun x => decide (x ∈ X)).length ≤ (X.filter fun x => !decide (x ∈ Y)).length := List.Nodup.length_le_of_subset (b1.nodup.filter _) fun x hx => by
      have h := List.mem_filter.mp hx
      refine List.mem_filter.mpr ⟨of_decide_eq_true h.2, ?_⟩
      have : x ∉ Y := fun hy => b4 x hy h.1
      simp [this]
    have c2 : (Y.filter fun y => decide (y ∈ X)).length = (X.filter fun x => decide (x ∈ Y)).length := by
      have h1 := List.Nodup.length_le_of_subset (nY.filter fun y => decide (y ∈ X)) (l₂ := X.filter fun x => decide (x ∈ Y)) fun x hx => by
        have h := List.mem_filter.mp hx
        exact List.mem_filter.mpr ⟨of_decide_eq_true h.2, decide_eq_true h.1⟩
      have h2 := List.Nodup.length_le_of_subset (nX.filter fun y => decide (y ∈ Y)) (l₂ := Y.filter fun x => decide (x ∈ X)) fun x hx => by
        have h := List.mem_filter.mp hx
        exact List.mem_filter.mpr ⟨of_decide_eq_true h.2, decide_eq_true h.1⟩
      omega
    have nU : ((B.filter fun x => !decide (x ∈ X)) ++ Y.filter fun y => !decide (y ∈ X)).Nodup := List.nodup_append.mpr ⟨nI, nY.filter _, fun a ha b hb e => by
      subst e
      exact b4 a (List.mem_filter.mp hb).1 ((mI a).mp ha).1⟩
    have c3 := List.Nodup.length_le_of_subset nU (l₂ := K) fun x hx => by
      rcases List.mem_append.mp hx with h | h
      · exact q4 x h
      · have h2 := List.mem_filter.mp h
        exact all x h2.1 (by simpa using h2.2)
    rw [List.length_append] at c3
    omega
/-- the rest is a system -/
theorem Sys.dual : Sys m (m - r) (IndD m r Ind) (sortR (bs.map (restR m))) := by
  obtain ⟨b0, z1, z2, z3⟩ := S.some
  have rm : r ≤ m := by have := z1.len; omega
  refine ⟨S.matD, fun w => ?_, fun w hw h => ?_, fun e => ?_⟩
  · rw [(sortR_perm _).mem_iff, List.mem_map]
    constructor
    · rintro ⟨b, hb, rfl⟩
      obtain ⟨b1, b2, b3⟩ := (S.mem b).mp hb
      have := restR_len b1
      exact ⟨restR_lot m b, ⟨fun x hx => (mem_restR.mp hx).1, b, b1, b2, b3, fun x hx => (mem_restR.mp hx).2⟩, by omega⟩
    · rintro ⟨hw, ⟨h0, b, b1, b2, b3, b4⟩, hl⟩
      refine ⟨b, (S.mem b).mpr ⟨b1, b2, b3⟩, ?_⟩
      have := restR_len b1
      refine (asc_unique hw.1 (restR_lot m b).1 fun x => ⟨fun hx => mem_restR.mpr ⟨hw.2 x hx, b4 x hx⟩, fun hx => pigeon hw.nodup (fun y hy => mem_restR.mpr ⟨hw.2 y hy, b4 y hy⟩) (by omega) x hx⟩).symm
  · obtain ⟨h0, b, b1, b2, b3, b4⟩ := h
    have := restR_len b1
    have := List.Nodup.length_le_of_subset hw.nodup (l₂ := restR m b) fun x hx => mem_restR.mpr ⟨hw.2 x hx, b4 x hx⟩
    omega
  · have : restR m b0 ∈ sortR (bs.map (restR m)) := (sortR_perm _).mem_iff.mpr (List.mem_map.mpr ⟨b0, (S.mem b0).mpr ⟨z1, z2, z3⟩, rfl⟩)
    rw [e] at this
    exact absurd this (by simp)
/-- ranks in the rest -/
theorem Sys.rk_dual {L : List Int} (hL : LotIn m L) : rkS (sortR (bs.map (restR m))) L + r = L.length + rkS bs (restR m L) := by
  have part : ∀ b, LotIn m b → b.length = r → cut L (restR m b) + r = L.length + cut (restR m L) b := fun b b1 b3 => by
    have s1 := filter_split (fun x => decide (x ∈ b)) L
    have s2 := filter_split (fun x => decide (x ∈ L)) b
    have c1 : (L.filter fun x => decide (x ∈ b)).length = (b.filter fun x => decide (x ∈ L)).length := by
      have h1 := List.Nodup.length_le_of_subset (hL.nodup.filter fun y => decide (y ∈ b)) (l₂ := b.filter fun x => decide (x ∈ L)) fun x hx => by
        have h := List.mem_filter.mp hx
        exact List.mem_filter.mpr ⟨of_decide_eq_true h.2, decide_eq_true h.1⟩
      have h2 := List.Nodup.length_le_of_subset (b1.nodup.filter fun y => decide (y ∈ L)) (l₂ := L.filter fun x => decide (x ∈ b)) fun x hx => by
        have h := List.mem_filter.mp hx
        exact List.mem_filter.mpr ⟨of_decide_eq_true h.2, decide_eq_true h.1⟩
      omega
    have c2 : cut L (restR m b) = (L.filter fun x => !decide (x ∈ b)).length := by
      unfold cut
      have h1 := List.Nodup.length_le_of_subset ((restR_lot m b).nodup.filter fun y => decide (y ∈ L)) (l₂ := L.filter fun x => !decide (x ∈ b)) fun x hx => by
        have h := List.mem_filter.mp hx
        have := (mem_restR.mp h.1).2
        exact List.mem_filter.mpr ⟨of_decide_eq_true h.2, by simp [this]⟩
      have h2 := List.Nodup.length_le_of_subset (hL.nodup.filter fun y => !decide (y ∈ b)) (l₂ := (restR m b).filter fun x => decide (x ∈ L)) fun x hx => by
        have h := List.mem_filter.mp hx
        exact List.mem_filter.mpr ⟨mem_restR.mpr ⟨hL.2 x h.1, by simpa using h.2⟩, decide_eq_true h.1⟩
      omega
    have c3 : cut (restR m L) b = (b.filter fun x => !decide (x ∈ L)).length := by
      unfold cut
      refine congrArg List.length (List.filter_congr fun x hx => ?_)
      rw [Bool.eq_iff_iff, decide_eq_true_iff, mem_restR]
      simp [b1.2 x hx]
    omega
  have D := S.dual
  obtain ⟨b, hb, e⟩ := rkS_at (restR m L) S.ne
  obtain ⟨b1, b2, b3⟩ := (S.mem b).mp hb
  have p1 := part b b1 b3
  have u1 := rkS_le (L := L) ((sortR_perm _).mem_iff.mpr (List.mem_map.mpr ⟨b, hb, rfl⟩) : restR m b ∈ sortR (bs.map (restR m)))
  obtain ⟨d, hd, e2⟩ := rkS_at L D.ne
  obtain ⟨c, hc, rfl⟩ := List.mem_map.mp ((sortR_perm _).mem_iff.mp hd)
  obtain ⟨c1, c2, c3⟩ := (S.mem c).mp hc
  have p2 := part c c1 c3
  have u2 := rkS_le (L := restR m L) hc
  omega
omit S in
theorem rest_rest {m : Nat} {b : List Int} (hb : LotIn m b) : restR m (restR m b) = b :=
  asc_unique (restR_lot m _).1 hb.1 fun x => by
    rw [mem_restR, mem_restR]
    constructor
    · rintro ⟨h1, h2⟩
      exact Classical.byContradiction fun h => h2 ⟨h1, h⟩
    · intro h
      exact ⟨hb.2 x h, fun z => z.2 h⟩
end
end Mp

set_option maxHeartbeats 4000000
/-! X2: columns by 2: lots of which no some add up to 0. -/
namespace Mp
open PySem
abbrev xo (a b : Int) : Int := Builtin.bitXor a b
abbrev B8 (a : Int) : Prop := 0 ≤ a ∧ a < 8
theorem xo_all : ∀ a b c : Fin 8, xo (xo (a.val : Int) b.val) c.val = xo (xo (a.val : Int) c.val) b.val ∧ xo (xo (a.val : Int) b.val) b.val = a.val ∧ xo (0 : Int) a.val = a.val ∧ (0 ≤ xo (a.val : Int) b.val ∧ xo (a.val : Int) b.val < 8) ∧ xo (a.val : Int) b.val = xo (b.val : Int) a.val ∧ xo (xo (a.val : Int) b.val) c.val = xo a.val (xo (b.val : Int) c.val) := by decide +kernel
theorem b8 {a : Int} (h : B8 a) : ∃ f : Fin 8, a = (f.val : Int) := ⟨⟨a.toNat, by have := h.1; have := h.2; omega⟩, by have := h.1; show a = ((a.toNat : Nat) : Int); omega⟩
theorem xo_in {a b : Int} (ha : B8 a) (hb : B8 b) : B8 (xo a b) := by
  obtain ⟨f, rfl⟩ := b8 ha
  obtain ⟨g, rfl⟩ := b8 hb
  exact (xo_all f g 0).2.2.2.1
theorem xo_swap {a b c : Int} (ha : B8 a) (hb : B8 b) (hc : B8 c) : xo (xo a b) c = xo (xo a c) b := by
  obtain ⟨f, rfl⟩ := b8 ha
  obtain ⟨g, rfl⟩ := b8 hb
  obtain ⟨k, rfl⟩ := b8 hc
  exact (xo_all f g k).1
theorem xo_back {a b : Int} (ha : B8 a) (hb : B8 b) : xo (xo a b) b = a := by
  obtain ⟨f, rfl⟩ := b8 ha
  obtain ⟨g, rfl⟩ := b8 hb
  exact (xo_all f g 0).2.1
theorem xo_zero {a : Int} (ha : B8 a) : xo 0 a = a := by
  obtain ⟨f, rfl⟩ := b8 ha
  exact (xo_all f 0 0).2.2.1
theorem xo_comm {a b : Int} (ha : B8 a) (hb : B8 b) : xo a b = xo b a := by
  obtain ⟨f, rfl⟩ := b8 ha
  obtain ⟨g, rfl⟩ := b8 hb
  exact (xo_all f g 0).2.2.2.2.1
theorem xo_assoc {a b c : Int} (ha : B8 a) (hb : B8 b) (hc : B8 c) : xo (xo a b) c = xo a (xo b c) := by
  obtain ⟨f, rfl⟩ := b8 ha
  obtain ⟨g, rfl⟩ := b8 hb
  obtain ⟨k, rfl⟩ := b8 hc
  exact (xo_all f g k).2.2.2.2.2
/-- the sums of some of a lot's columns -/
def sums (cl : Int → Int) : List Int → List Int
  | [] => [0]
  | x :: L => sums cl L ++ (sums cl L).map fun v => xo v (cl x)
/-- the program's way -/
def sumsF (cl : Int → Int) (L : List Int) : List Int := L.foldl (fun S x => S ++ S.map fun v => xo v (cl x)) [0]
theorem sumsF_rev (cl : Int → Int) : ∀ L : List Int, sumsF cl L.reverse = sums cl L
  | [] => rfl
  | x :: L => by
    unfold sumsF
    rw [List.reverse_cons, List.foldl_append]
    show sumsF cl L.reverse ++ (sumsF cl L.reverse).map _ = _
    rw [sumsF_rev cl L]
    rfl
def IndC (cl : Int → Int) (L : List Int) : Prop := (sums cl L).count 0 = 1
section
variable {cl : Int → Int} (hc : ∀ x, B8 (cl x))
include hc
theorem sums_in : ∀ (L : List Int), ∀ v ∈ sums cl L, B8 v
  | [], v, h => by rw [List.mem_singleton.mp h]; exact ⟨by omega, by omega⟩
  | x :: L, v, h => by
    rcases List.mem_append.mp h with h | h
    · exact sums_in L v h
    · obtain ⟨u, hu, rfl⟩ := List.mem_map.mp h
      exact xo_in (sums_in L u hu) (hc x)
omit hc in
theorem sums_zero : ∀ L : List Int, 0 ∈ sums cl L
  | [] => .head _
  | x :: L => List.mem_append_left _ (sums_zero L)
theorem sums_mem : ∀ (L : List Int) (x : Int), x ∈ L → cl x ∈ sums cl L
  | y :: L, x, h => by
    rcases List.mem_cons.mp h with rfl | h
    · exact List.mem_append_right _ (List.mem_map.mpr ⟨0, sums_zero L, xo_zero (hc x)⟩)
    · exact List.mem_append_left _ (sums_mem L x h)
/-- sums of sums are sums -/
theorem sums_closed : ∀ (L : List Int) (u v : Int), u ∈ sums cl L → v ∈ sums cl L → xo u v ∈ sums cl L
  | [], u, v, hu, hv => by
    rw [List.mem_singleton.mp hu, List.mem_singleton.mp hv]
    show xo 0 0 ∈ ([0] : List Int)
    decide +kernel
  | x :: L, u, v, hu, hv => by
    have bx := hc x
    have key : ∀ a b, a ∈ sums cl L → b ∈ sums cl L → xo (xo a (cl x)) b = xo (xo a b) (cl x) := fun a b ha hb => xo_swap (sums_in hc L a ha) bx (sums_in hc L b hb)
    rcases List.mem_append.mp hu with hu | hu
    · rcases List.mem_append.mp hv with hv | hv
      · exact List.mem_append_left _ (sums_closed L u v hu hv)
      · obtain ⟨b, hb, rfl⟩ := List.mem_map.mp hv
        refine List.mem_append_right _ (List.mem_map.mpr ⟨xo u b, sums_closed L u b hu hb, ?_⟩)
        exact xo_assoc (sums_in hc L u hu) (sums_in hc L b hb) bx
    · obtain ⟨a, ha, rfl⟩ := List.mem_map.mp hu
      rcases List.mem_append.mp hv with hv | hv
      · exact List.mem_append_right _ (List.mem_map.mpr ⟨xo a v, sums_closed L a v ha hv, (key a v ha hv).symm⟩)
      · obtain ⟨b, hb, rfl⟩ := List.mem_map.mp hv
        refine List.mem_append_left _ ?_
        have e : xo (xo a (cl x)) (xo b (cl x)) = xo a b := by
          have ba := sums_in hc L a ha
          have bb := sums_in hc L b hb
          rw [xo_comm bb bx, ← xo_assoc (xo_in ba bx) bx bb, xo_back ba bx]
        show xo (xo a (cl x)) (xo b (cl x)) ∈ _
        rw [e]
        exact sums_closed L a b ha hb
theorem count_xo (c : Int) (bc : B8 c) : ∀ (S : List Int), (∀ v ∈ S, B8 v) → ∀ v, B8 v → (S.map fun u => xo u c).count v = S.count (xo v c)
  | [], _, _, _ => rfl
  | u :: S, h, v, bv => by
    have bu := h u (.head _)
    rw [List.map_cons, List.count_cons, List.count_cons, count_xo c bc S (fun w hw => h w (.tail _ hw)) v bv]
    congr 1
    by_cases q : xo u c = v
    · have : u = xo v c := by rw [← q, xo_back bu bc]
      rw [if_pos (by simpa using q), if_pos (by simpa using this)]
    · have : ¬ u = xo v c := fun e => q (by rw [e, xo_back bv bc])
      rw [if_neg (by simpa using q), if_neg (by simpa using this)]
/-- each sum comes as often as 0 -/
theorem sums_even : ∀ (L : List Int) (v : Int), v ∈ sums cl L → (sums cl L).count v = (sums cl L).count 0
  | [], v, h => by rw [List.mem_singleton.mp h]
  | x :: L, v, h => by
    have bx := hc x
    have b0 : B8 0 := ⟨by omega, by omega⟩
    have si := sums_in hc L
    have bv := sums_in hc (x :: L) v h
    have ex : ∀ w, B8 w → (sums cl (x :: L)).count w = (sums cl L).count w + (sums cl L).count (xo w (cl x)) := fun w bw => by
      show (sums cl L ++ (sums cl L).map fun v => xo v (cl x)).count w = _
      rw [List.count_append, count_xo hc (cl x) bx _ si w bw]
    rw [ex v bv, ex 0 b0, xo_zero bx]
    by_cases q : cl x ∈ sums cl L
    · have e1 := sums_even L _ q
      have vin : v ∈ sums cl L := by
        rcases List.mem_append.mp h with h | h
        · exact h
        · obtain ⟨u, hu, rfl⟩ := List.mem_map.mp h
          exact sums_closed hc L u (cl x) hu q
      rw [sums_even L v vin, sums_even L _ (sums_closed hc L v (cl x) vin q), e1]
    · have c0 : (sums cl L).count (cl x) = 0 := List.count_eq_zero.mpr q
      rw [c0]
      rcases List.mem_append.mp h with h | h
      · have n2 : xo v (cl x) ∉ sums cl L := fun z => q (by
          have := sums_closed hc L v (xo v (cl x)) h z
          rw [xo_comm (si v h) (xo_in (si v h) bx), xo_swap (si v h) bx (si v h)] at this
          have e : xo (xo v v) (cl x) = cl x := by
            have z0 : xo v v = 0 := by
              have := xo_back b0 (si v h)
              rw [xo_zero (si v h)] at this
              exact this
            rw [z0, xo_zero bx]
          rwa [e] at this)
        rw [sums_even L v h, List.count_eq_zero.mpr n2]
      · obtain ⟨u, hu, rfl⟩ := List.mem_map.mp h
        have n2 : xo u (cl x) ∉ sums cl L := fun z => q (by
          have := sums_closed hc L u (xo u (cl x)) hu z
          rw [xo_comm (si u hu) (xo_in (si u hu) bx), xo_swap (si u hu) bx (si u hu)] at this
          have e : xo (xo u u) (cl x) = cl x := by
            have z0 : xo u u = 0 := by
              have := xo_back b0 (si u hu)
              rw [xo_zero (si u hu)] at this
              exact this
            rw [z0, xo_zero bx]
          rwa [e] at this)
        show (sums cl L).count (xo u (cl x)) + (sums cl L).count (xo (xo u (cl x)) (cl x)) = _
        rw [xo_back (si u hu) bx, List.count_eq_zero.mpr n2, sums_even L u hu]
        omega
theorem ind_cons {L : List Int} (h : IndC cl L) (x : Int) : IndC cl (x :: L) ↔ cl x ∉ sums cl L := by
  have bx := hc x
  have b0 : B8 0 := ⟨by omega, by omega⟩
  have e : (sums cl (x :: L)).count 0 = (sums cl L).count 0 + (sums cl L).count (cl x) := by
    show (sums cl L ++ (sums cl L).map fun v => xo v (cl x)).count 0 = _
    rw [List.count_append, count_xo hc (cl x) bx _ (sums_in hc L) 0 b0, xo_zero bx]
  unfold IndC at *
  rw [e, h]
  constructor
  · intro z
    exact List.count_eq_zero.mp (by omega)
  · intro z
    rw [List.count_eq_zero.mpr z]
theorem ind_tail {L : List Int} {x : Int} (h : IndC cl (x :: L)) : IndC cl L := by
  have p : 0 < (sums cl L).count 0 := List.count_pos_iff.mpr (sums_zero L)
  unfold IndC at *
  have e : (sums cl (x :: L)).count 0 = (sums cl L).count 0 + ((sums cl L).map fun v => xo v (cl x)).count 0 := List.count_append ..
  omega
theorem sums_perm {L M : List Int} (p : L.Perm M) : (sums cl L).Perm (sums cl M) := by
  induction p with
  | nil => exact List.Perm.refl _
  | cons x _ ih => exact ih.append (ih.map _)
  | swap x y l =>
    have si := sums_in hc l
    show ((sums cl l ++ (sums cl l).map fun v => xo v (cl x)) ++ (sums cl l ++ (sums cl l).map fun v => xo v (cl x)).map fun v => xo v (cl y)).Perm ((sums cl l ++ (sums cl l).map fun v => xo v (cl y)) ++ (sums cl l ++ (sums cl l).map fun v => xo v (cl y)).map fun v => xo v (cl x))
    rw [List.map_append, List.map_append, List.map_map, List.map_map]
    have e : (sums cl l).map ((fun v => xo v (cl y)) ∘ fun v => xo v (cl x)) = (sums cl l).map ((fun v => xo v (cl x)) ∘ fun v => xo v (cl y)) := List.map_congr_left fun v hv => xo_swap (si v hv) (hc x) (hc y)
    rw [e, List.append_assoc, List.append_assoc]
    refine List.Perm.append_left _ ?_
    rw [← List.append_assoc, ← List.append_assoc]
    exact List.Perm.append_right _ List.perm_append_comm
  | trans _ _ h1 h2 => exact h1.trans h2
theorem ind_perm {L M : List Int} (p : L.Perm M) : IndC cl L ↔ IndC cl M := by
  unfold IndC
  rw [(sums_perm hc p).count_eq]
theorem ind_append {M : List Int} : ∀ {K : List Int}, IndC cl (K ++ M) → IndC cl M
  | [], h => h
  | x :: K, h => ind_append (ind_tail hc h)
theorem ind_nodup {L : List Int} (h : IndC cl L) : (sums cl L).Nodup := List.nodup_iff_count.mpr fun v => by
  by_cases q : v ∈ sums cl L
  · rw [sums_even hc L v q]
    unfold IndC at h
    omega
  · rw [List.count_eq_zero.mpr q]
    omega
omit hc in
theorem sums_len : ∀ L : List Int, (sums cl L).length = 2 ^ L.length
  | [] => rfl
  | x :: L => by
    show (sums cl L ++ (sums cl L).map _).length = _
    rw [List.length_append, List.length_map, sums_len L, List.length_cons, Nat.pow_succ]
    omega
theorem sums_within {I : List Int} : ∀ (J : List Int), (∀ x ∈ J, cl x ∈ sums cl I) → ∀ v ∈ sums cl J, v ∈ sums cl I
  | [], _, v, hv => by rw [List.mem_singleton.mp hv]; exact sums_zero I
  | x :: J, h, v, hv => by
    have ih := sums_within J fun y hy => h y (.tail _ hy)
    rcases List.mem_append.mp hv with hv | hv
    · exact ih v hv
    · obtain ⟨u, hu, rfl⟩ := List.mem_map.mp hv
      exact sums_closed hc I u (cl x) (ih u hu) (h x (.head _))
theorem col_mat : Mat (IndC cl) where
  nil := by
    show ([0] : List Int).count 0 = 1
    decide
  sub {I J} nI nJ hJ hs := by
    have p : J.Perm ((J.filter fun x => !decide (x ∈ I)) ++ I) := by
      refine (List.perm_ext_iff_of_nodup nJ (List.nodup_append.mpr ⟨nJ.filter _, nI, fun a ha b hb e => ?_⟩)).mpr fun x => ?_
      · subst e
        have := (List.mem_filter.mp ha).2
        simp [hb] at this
      · rw [List.mem_append, List.mem_filter]
        constructor
        · intro h
          by_cases q : x ∈ I
          · exact .inr q
          · exact .inl ⟨h, by simp [q]⟩
        · rintro (h | h)
          · exact h.1
          · exact hs x h
    exact ind_append hc ((ind_perm hc p).mp hJ)
  aug {I J} nI nJ hI hJ lt := Classical.byContradiction fun no => by
    have all : ∀ x ∈ J, cl x ∈ sums cl I := fun x hx => Classical.byContradiction fun nx => by
      refine no ⟨x, hx, fun h => nx (sums_mem hc I x h), ?_⟩
      refine (ind_perm hc ?_).mpr ((ind_cons hc hI x).mpr nx)
      exact List.perm_append_singleton x I
    have le := List.Nodup.length_le_of_subset (ind_nodup hc hJ) (l₂ := sums cl I) fun v hv => sums_within hc J all v hv
    rw [sums_len, sums_len] at le
    have := Nat.pow_lt_pow_right (a := 2) (by omega) lt
    omega
end
end Mp

/-! M7: given lots with a lot more; members within a lot of whole members. -/
namespace Mp
open PySem
theorem given_stepP {m : Nat} {lots : List (List Int)} {j : Nat} {l : List Int} (hl : lots[j]? = some l) (hx : ∀ x ∈ l, 0 ≤ x ∧ x < m) {w : List Int} :
    (LotIn m w ∧ Given (lots.take (j + 1)) w) ↔ (LotIn m w ∧ Given (lots.take j) w) ∨ ∃ here, (LotIn m here ∧ Given (lots.take j) here) ∧ ∃ x ∈ l, x ∉ here ∧ w = sortI (here ++ [x]) := by
  constructor
  · rintro ⟨h1, h2⟩
    rcases (given_take hl h1.nodup).mp h2 with h | ⟨x, a, b, c⟩
    · exact .inl ⟨h1, h⟩
    · have me : ∀ y, y ∈ w.erase x ↔ y ≠ x ∧ y ∈ w := fun y => List.Nodup.mem_erase_iff h1.nodup
      have he : LotIn m (w.erase x) := ⟨h1.1.sublist List.erase_sublist, fun y hy => h1.2 y ((me y).mp hy).2⟩
      have hn : x ∉ w.erase x := fun h => ((me x).mp h).1 rfl
      refine .inr ⟨w.erase x, ⟨he, c⟩, x, a, hn, asc_unique h1.1 (lot_add he (hx x a) hn).1 fun y => ?_⟩
      rw [(sortI_perm _).mem_iff, List.mem_append, me, List.mem_singleton]
      constructor
      · intro hy
        by_cases e : y = x
        · exact .inr e
        · exact .inl ⟨e, hy⟩
      · rintro (h | rfl)
        · exact h.2
        · exact b
  · rintro (⟨h1, h2⟩ | ⟨here, ⟨h1, h2⟩, x, a, b, rfl⟩)
    · exact ⟨h1, (given_take hl h1.nodup).mpr (.inl h2)⟩
    · have hw := lot_add h1 (hx x a) b
      have mw : ∀ y, y ∈ sortI (here ++ [x]) ↔ y ∈ here ∨ y = x := fun y => by rw [(sortI_perm _).mem_iff, List.mem_append, List.mem_singleton]
      refine ⟨hw, (given_take hl hw.nodup).mpr (.inr ⟨x, a, (mw x).mpr (.inr rfl), (given_congr fun y => ?_).mp h2⟩)⟩
      rw [List.Nodup.mem_erase_iff hw.nodup, mw]
      constructor
      · intro hy
        exact ⟨fun e => b (e ▸ hy), .inl hy⟩
      · rintro ⟨h, h' | h'⟩
        · exact h'
        · exact absurd h' h
/-- members within a lot -/
def inB (L l : List Int) : Bool := decide (l.filter (fun x => !decide (x ∈ L)) = [])
theorem inB_iff {L l : List Int} : inB L l = true ↔ ∀ x ∈ l, x ∈ L := by
  unfold inB
  rw [decide_eq_true_iff, List.filter_eq_nil_iff]
  simp
theorem idx_count : ∀ (lots : List (List Int)) (p : List Int → Bool) (q : Nat → Bool), (∀ i l, lots[i]? = some l → q i = p l) → ((List.range lots.length).filter q).length = (lots.filter p).length
  | [], p, q, _ => rfl
  | l :: r, p, q, h => by
    have h0 : q 0 = p l := h 0 l rfl
    have ih := idx_count r p (fun i => q (i + 1)) fun i u hu => h (i + 1) u hu
    rw [List.length_cons, List.range_succ_eq_map, List.filter_cons, List.filter_cons, h0, List.filter_map]
    have e : (List.map Nat.succ (List.filter (q ∘ Nat.succ) (List.range r.length))).length = (r.filter p).length := by
      rw [List.length_map]
      exact ih
    by_cases hp : p l = true
    · rw [if_pos hp, if_pos hp, List.length_cons, List.length_cons, e]
    · rw [if_neg hp, if_neg hp, e]
theorem within_nb {m : Nat} {lots : List (List Int)} {L : List Int} (hL : LotIn m L) (hls : ∀ l ∈ lots, LotIn m l) : (lots.filter (inB L)).length + (nb lots (restR m L)).length = lots.length := by
  have e : (nb lots (restR m L)).length = (lots.filter fun l => !inB L l).length := by
    unfold nb
    refine idx_count lots (fun l => !inB L l) _ fun i l hi => ?_
    have hl := hls l (List.mem_of_getElem? hi)
    rw [Bool.eq_iff_iff, List.any_eq_true, Bool.not_eq_true', Bool.eq_false_iff, ne_eq, inB_iff]
    constructor
    · rintro ⟨x, h1, h2⟩ h3
      obtain ⟨l', h4, h5⟩ := meet_iff.mp h2
      rw [hi] at h4
      cases h4
      exact (mem_restR.mp h1).2 (h3 x h5)
    · intro h
      by_cases q : ∃ x ∈ l, x ∉ L
      · obtain ⟨x, h1, h2⟩ := q
        exact ⟨x, mem_restR.mpr ⟨hl.2 x h1, h2⟩, meet_iff.mpr ⟨l, hi, h1⟩⟩
      · exact absurd (fun x hx => by
          by_cases z : x ∈ L
          · exact z
          · exact absurd ⟨x, hx, z⟩ q) h
  rw [e]
  have := filter_split (inB L) lots
  omega
theorem within_null {m r : Nat} {lots bs : List (List Int)} {L : List Int} (hL : LotIn m L) (hls : ∀ l ∈ lots, LotIn m l) (h0 : bs ≠ []) (hbs : ∀ b, b ∈ bs ↔ (LotIn m b ∧ Given lots b) ∧ b.length = r) (whole : r = lots.length) : (lots.filter (inB L)).length + rkS (bs.map (restR m)) L ≤ L.length := by
  obtain ⟨b', hb', e⟩ := rkS_at (bs := bs.map (restR m)) L (by simpa using h0)
  obtain ⟨B, hB, rfl⟩ := List.mem_map.mp hb'
  obtain ⟨⟨l1, g1⟩, n1⟩ := (hbs B).mp hB
  have o := ore_le (B := restR m L) l1.nodup g1 (fun y hy => hy)
  have w := within_nb hL hls
  have c1 : (B.filter fun y => !decide (y ∈ restR m L)).length = (L.filter fun y => decide (y ∈ B)).length := ((List.perm_ext_iff_of_nodup (l1.nodup.filter _) (hL.nodup.filter _)).mpr fun y => by
    rw [List.mem_filter, List.mem_filter, Bool.not_eq_true', decide_eq_false_iff_not, decide_eq_true_iff, mem_restR]
    constructor
    · rintro ⟨h1, h2⟩
      by_cases z : y ∈ L
      · exact ⟨z, h1⟩
      · exact absurd ⟨l1.2 y h1, z⟩ h2
    · rintro ⟨h1, h2⟩
      exact ⟨h2, fun h => h.2 h1⟩).length_eq
  have c2 : cut L (restR m B) = (L.filter fun y => !decide (y ∈ B)).length := ((List.perm_ext_iff_of_nodup ((restR_lot m B).nodup.filter _) (hL.nodup.filter _)).mpr fun y => by
    rw [List.mem_filter, List.mem_filter, Bool.not_eq_true', decide_eq_false_iff_not, decide_eq_true_iff, mem_restR]
    constructor
    · rintro ⟨⟨h1, h2⟩, h3⟩
      exact ⟨h3, h2⟩
    · rintro ⟨h1, h2⟩
      exact ⟨⟨hL.2 y h1, h2⟩, h1⟩).length_eq
  have sp := filter_split (fun y => decide (y ∈ B)) L
  rw [← e, c2]
  omega
end Mp

/-! F4e: the law's given lots, the dict grown in place. -/
namespace Mp
open PySem
def xE : Ss := .cons (.if_ (.cmp .notin (.var 4) (.var 3)) (.cons (.setItem 1 (.bf .tuple (.cons (.bf .sorted (.cons (.bin .add (.var 3) (.tup (.cons (.var 4) .nil))) .nil)) .nil)) (.int 0)) .nil) .nil) .nil
def hereE : Ss := .cons (.for_ (.name 4) (.over (.var 2)) [1, 2, 3] xE) .nil
def lotE : Ss := .cons (.for_ (.name 3) (.over (.bf .sorted (.cons (.var 1) .nil))) [1, 2] hereE) .nil
section
variable {call : Call} {m : Nat} (hm : m ≤ 7)
include hm
theorem here_loopE (l here : List Int) (late : List (List Int)) (s : Src) (x4 : Slot) (hk : KO m late) (hh : LotIn m here) (hl : ∀ x ∈ l, 0 ≤ x ∧ x < m) :
    ∃ late' σ2, execs call fuelW hereE [.no, .own (ksD late), .frz (rowD l), .frz (rowD here), x4] s = some (.next σ2, s) ∧ keepF [1, 2] 0 σ2 = [.no, .own (ksD late'), .frz (rowD l), .no, .no] ∧ KO m late' ∧ ∀ w, w ∈ late' ↔ w ∈ late ∨ ∃ x ∈ l, x ∉ here ∧ w = sortI (here ++ [x]) := by
  obtain ⟨σ', e, late', rfl, h1, h2⟩ := exs_forI (call := call) (fuel := fuelW) (t := .name 4) (it := .over (.var 2)) (keep := [1, 2, 3]) (body := xE) (σ := [.no, .own (ksD late), .frz (rowD l), .frz (rowD here), x4]) (s := s) (s1 := s) PyData.int l
    (fun j σ => ∃ late', σ = [.no, .own (ksD late'), .frz (rowD l), .frz (rowD here), .no] ∧ KO m late' ∧ ∀ w, w ∈ late' ↔ w ∈ late ∨ ∃ x ∈ l.take j, x ∉ here ∧ w = sortI (here ++ [x])) rfl (r_overT (r_var rfl)) ⟨late, rfl, hk, fun w => ⟨.inl, fun h => h.elim id fun ⟨x, hx, _⟩ => absurd hx (by simp)⟩⟩ (by
      rintro j x σ hj ⟨late', rfl, k1, k2⟩
      have hx := hl x (List.mem_of_getElem? hj)
      have c0 : ev call false (.cmp .notin (.var 4) (.var 3)) [.no, .own (ksD late'), .frz (rowD l), .frz (rowD here), .frz (.int x)] s = some (.bool (!decide (x ∈ here)), s) := r_cmp (r_var rfl) (r_var rfl) (notin_row _ _)
      by_cases hn : x ∈ here
      · refine ⟨_, _, rfl, exs_step (q_no c0 (by rw [decide_eq_true hn]; rfl)) exs_nil, late', rfl, k1, fun w => (k2 w).trans ?_⟩
        rw [List.take_add_one, hj]
        refine or_congr Iff.rfl ⟨fun ⟨y, a, b⟩ => ⟨y, List.mem_append_left _ a, b⟩, fun ⟨y, a, b, c⟩ => ?_⟩
        rcases List.mem_append.mp a with a | a
        · exact ⟨y, a, b, c⟩
        · rw [List.mem_singleton.mp a] at b
          exact absurd hn b
      · have hlen := hh.len
        have ll : (here ++ [x]).length ≤ lim := by rw [List.length_append, List.length_singleton]; unfold lim; omega
        have st := q_setD (call := call) (fuel := fuelW) (x := 1) (k := .bf .tuple (.cons (.bf .sorted (.cons (.bin .add (.var 3) (.tup (.cons (.var 4) .nil))) .nil)) .nil)) (v := .int 0) (σ := [.no, .own (ksD late'), .frz (rowD l), .frz (rowD here), .frz (.int x)]) (s := s) (kvs := ksL late') (kd := rowD (sortI (here ++ [x]))) (vd := .int 0) (r_int 0)
          (r_bf1t (r_bf1t (r_bin (r_var rfl) (r_tup (r_es1 (r_var rfl)) (by unfold lim; simp)) (bop_add_row here x (by unfold lim; omega))) (bf_sorted_row _ ll) rfl) (bf_tuple_ints _) rfl) rfl (ks_fits _ _) (by rw [ksL_len]; have := k1.len hm; unfold lim; omega)
        rw [ks_put] at st
        refine ⟨_, _, rfl, exs_step (q_yes c0 (by rw [decide_eq_false hn]; rfl) (exs_step st exs_nil)) exs_nil, kput late' (sortI (here ++ [x])), rfl, k1.put (lot_add hh hx hn), fun w => mem_kput.trans ?_⟩
        rw [k2 w, List.take_add_one, hj, or_assoc]
        refine or_congr Iff.rfl ⟨fun h => ?_, fun ⟨y, a, b, c⟩ => ?_⟩
        · rcases h with ⟨y, a, b⟩ | rfl
          · exact ⟨y, List.mem_append_left _ a, b⟩
          · exact ⟨x, List.mem_append_right _ (.head _), hn, rfl⟩
        · rcases List.mem_append.mp a with a | a
          · exact .inl ⟨y, a, b, c⟩
          · rw [List.mem_singleton.mp a] at c
            exact .inr c)
  rw [List.take_length] at h2
  exact ⟨late', _, exs_step e exs_nil, rfl, h1, h2⟩
theorem lot_loopE (l : List Int) (found : List (List Int)) (s : Src) (x3 x4 : Slot) (hk : KO m found) (hl : ∀ x ∈ l, 0 ≤ x ∧ x < m) :
    ∃ found' σ2, execs call fuelW lotE [.no, .own (ksD found), .frz (rowD l), x3, x4] s = some (.next σ2, s) ∧ keepF [1] 0 σ2 = [.no, .own (ksD found'), .no, .no, .no] ∧ KO m found' ∧ ∀ w, w ∈ found' ↔ w ∈ found ∨ ∃ here ∈ found, ∃ x ∈ l, x ∉ here ∧ w = sortI (here ++ [x]) := by
  have kl := hk.len hm
  have ms : ∀ w, w ∈ sortR found ↔ w ∈ found := fun w => (sortR_perm found).mem_iff
  obtain ⟨σ', e, late', rfl, h1, h2⟩ := exs_forI (call := call) (fuel := fuelW) (t := .name 3) (it := .over (.bf .sorted (.cons (.var 1) .nil))) (keep := [1, 2]) (body := hereE) (σ := [.no, .own (ksD found), .frz (rowD l), x3, x4]) (s := s) (s1 := s) rowD (sortR found)
    (fun j σ => ∃ late', σ = [.no, .own (ksD late'), .frz (rowD l), .no, .no] ∧ KO m late' ∧ ∀ w, w ∈ late' ↔ w ∈ found ∨ ∃ here ∈ (sortR found).take j, ∃ x ∈ l, x ∉ here ∧ w = sortI (here ++ [x])) rfl (r_over (r_bf1t (r_var rfl) (bf_sorted_ks found (by unfold lim; omega)) rfl)) ⟨found, rfl, hk, fun w => ⟨.inl, fun h => h.elim id fun ⟨x, hx, _⟩ => absurd hx (by simp)⟩⟩ (by
      rintro j here σ hj ⟨late', rfl, k1, k2⟩
      obtain ⟨late2, σ2, e1, e2, q1, q2⟩ := here_loopE (call := call) hm l here late' s .no k1 (hk.lot here ((ms here).mp (List.mem_of_getElem? hj))) hl
      refine ⟨_, σ2, rfl, e1, late2, e2, q1, fun w => (q2 w).trans ?_⟩
      rw [k2 w, List.take_add_one, hj, or_assoc]
      refine or_congr Iff.rfl ⟨fun h => ?_, fun ⟨y, a, b⟩ => ?_⟩
      · rcases h with ⟨y, a, b⟩ | b
        · exact ⟨y, List.mem_append_left _ a, b⟩
        · exact ⟨here, List.mem_append_right _ (.head _), b⟩
      · rcases List.mem_append.mp a with a | a
        · exact .inl ⟨y, a, b⟩
        · rw [List.mem_singleton.mp a] at b
          exact .inr b)
  rw [List.take_length] at h2
  refine ⟨late', _, exs_step e exs_nil, rfl, h1, fun w => (h2 w).trans (or_congr Iff.rfl ⟨fun ⟨y, a, b⟩ => ⟨y, (ms y).mp a, b⟩, fun ⟨y, a, b⟩ => ⟨y, (ms y).mpr a, b⟩⟩)⟩
end
theorem lawgivenE_gen (k m : Nat) (lots : List (List Int)) (d0 : D) (hev : ∀ (call : Call) (σ : Ev) (s : Src), rdSlot false σ 0 = some d0 → evI call false (.over (.var 0)) σ s = some (lots.map rowD, s)) (s : Src) (hm : m ≤ 7) (hls : ∀ l ∈ lots, LotIn m l) :
    ∃ ks, Gives "_law_given" false (callN Γ (k + 1)) [d0] s (waysD (sortR ks)) s ∧ KO m ks ∧ ks ≠ [] ∧ ∀ w, w ∈ ks ↔ LotIn m w ∧ Given lots w := by
  have e0 : LotIn m [] := ⟨List.Pairwise.nil, fun x hx => absurd hx (by simp)⟩
  obtain ⟨σ', e, ks, rfl, h1, h2⟩ := exs_forI (call := callN Γ k) (fuel := fuelW) (t := .name 2) (it := .over (.var 0)) (keep := [1]) (body := lotE) (σ := [.frz d0, .own (ksD [[]]), .no, .no, .no]) (s := s) (s1 := s) rowD lots
    (fun j σ => ∃ ks, σ = [.no, .own (ksD ks), .no, .no, .no] ∧ KO m ks ∧ ∀ w, w ∈ ks ↔ LotIn m w ∧ Given (lots.take j) w) rfl (hev _ _ _ rfl) ⟨[[]], rfl, ⟨by decide, fun w hw => by rw [List.mem_singleton.mp hw]; exact e0⟩, fun w => by
      rw [List.take_zero, given_nil, List.mem_singleton]
      exact ⟨fun h => ⟨h ▸ e0, h⟩, fun h => h.2⟩⟩ (by
      rintro j l σ hj ⟨ks, rfl, k1, k2⟩
      have hx := hls l (List.mem_of_getElem? hj)
      obtain ⟨ks', σ2, e1, e2, q1, q2⟩ := lot_loopE (call := callN Γ k) hm l ks s .no .no k1 hx.2
      refine ⟨_, σ2, rfl, e1, ks', e2, q1, fun w => (q2 w).trans ?_⟩
      rw [given_stepP hj hx.2, k2 w]
      refine or_congr Iff.rfl ⟨fun ⟨here, a, b⟩ => ⟨here, (k2 here).mp a, b⟩, fun ⟨here, a, b⟩ => ⟨here, (k2 here).mpr a, b⟩⟩)
  rw [List.take_length] at h2
  have kl := h1.len hm
  refine ⟨ks, gv (call_def rfl rfl rfl rfl (exs_step (q_assign (d := ksD [[]]) ?_ rfl) (exs_step e (exs_retv (r_bf1t (r_var rfl) (bf_sorted_ks ks (by unfold lim; omega)) rfl))))), h1, fun h => ?_, h2⟩
  · show bnd (ev (callN Γ k) false (.tup .nil) _) _ s = _
    rw [bnd_eq (r_tup r_es0 (Nat.zero_le _))]
    rfl
  · have : [] ∈ ks := (h2 []).mpr ⟨e0, ⟨fun _ => 0, fun x hx => absurd hx (by simp), fun x hx => absurd hx (by simp)⟩⟩
    rw [h] at this
    exact absurd this (by simp)
theorem lawgivenE_ok (k m : Nat) (lots : List (List Int)) (s : Src) (hm : m ≤ 7) (hls : ∀ l ∈ lots, LotIn m l) :
    ∃ ks, Gives "_law_given" false (callN Γ (k + 1)) [.tuple (lots.map rowD)] s (waysD (sortR ks)) s ∧ KO m ks ∧ ks ≠ [] ∧ ∀ w, w ∈ ks ↔ LotIn m w ∧ Given lots w :=
  lawgivenE_gen k m lots _ (fun _ _ _ h => r_overT (r_var h)) s hm hls
theorem lawgivenL_ok (k m : Nat) (lots : List (List Int)) (s : Src) (hm : m ≤ 7) (hls : ∀ l ∈ lots, LotIn m l) :
    ∃ ks, Gives "_law_given" false (callN Γ (k + 1)) [waysD lots] s (waysD (sortR ks)) s ∧ KO m ks ∧ ks ≠ [] ∧ ∀ w, w ∈ ks ↔ LotIn m w ∧ Given lots w :=
  lawgivenE_gen k m lots _ (fun _ _ _ h => r_over (r_var h)) s hm hls
end Mp

/-! R3o: _law_of. -/
namespace Mp
open PySem
theorem of_ok (k : Nat) (xs : List D) (d0 : D) (hd : d0 = .list xs) (s : Src) (h0 : 0 < xs.length) (h1 : xs.length < 1073741824) : ∃ d s', callN Γ (k + 2) "_law_of" true [d0] s = some (d, s') ∧ d ∈ xs := by
  subst hd
  obtain ⟨x, s', e, x0, x1⟩ := pick_call k s (xs.length : Nat) (by omega) (by omega)
  have hx : x.toNat < xs.length := by omega
  have hi : itemAt (.list xs) (.int x) = some xs[x.toNat] := by
    show (ixNat xs.length x).bind _ = _
    unfold ixNat
    rw [if_pos x0, if_pos (by omega), Option.bind_some, List.getElem?_eq_getElem hx]
  refine ⟨xs[x.toNat], s', call_def rfl rfl rfl rfl (exs_ret (q_ret (r_idx (r_var rfl) (r_call (s1 := s) rfl (r_es1 (r_bf1 (r_var rfl) rfl)) rfl e) hi))), List.getElem_mem hx⟩
end Mp

/-! PA1: _law_lots. -/
namespace Mp
open PySem
theorem lawlots_ok (k m : Nat) (s : Src) (hm : m ≤ 20) : Gives "_law_lots" false (callN Γ (k + 1)) [.int m] s (waysD (sortR (lotsAll m))) s := by
  have hl : (lotsAll m).length ≤ lim := by
    rw [lotsAll_len]
    have := Nat.pow_le_pow_right (n := 2) (by omega) hm
    have e20 : (2 : Nat) ^ 20 = 1048576 := by decide
    unfold lim
    omega
  have hr : rangeOk (m : Int) = true := by unfold rangeOk; exact decide_eq_true (by omega)
  have fin : ∀ (call : Call), execs call fuelW (.cons (.ret (.bf .sorted (.cons (.var 1) .nil))) .nil) [.no, .frz (waysD (lotsAll m)), .no, .no] s = some (.ret (waysD (sortR (lotsAll m))), s) := fun call => exs_ret (q_ret (r_bf1t (r_var rfl) (bf_sorted_ways _ hl) rfl))
  refine gv (call_def rfl rfl rfl rfl ?_)
  refine exs_step (q_assign (r_lst (r_es1 (r_tup r_es0 (Nat.zero_le _))) (by unfold lim; simp)) rfl) ?_
  refine exs_forS PyData.int (upto m) (fun j => [.no, .frz (waysD (lotsAll j)), .no, .no]) rfl (by rw [← range_upto]; exact r_range1 (r_var rfl) hr) rfl (fun j x hx => ?_) (by rw [upto_len]; exact fin _)
  obtain ⟨rfl, hj⟩ := upto_get hx
  obtain ⟨σ2, e1, e2⟩ := (lots_stepC (callN Γ k) j .no s (by omega)).2
  exact ⟨_, σ2, rfl, e1, e2⟩
end Mp

/-! X3: drawn systems: of columns by 2, of members, their rests. -/
namespace Mp
open PySem
theorem lawrest_ok (k m : Nat) (w : List Int) (s : Src) (hm : m ≤ 1000) : Gives "_law_rest" false (callN Γ (k + 1)) [.int m, rowD w] s (rowD (restR m w)) s := by
  have hr : rangeOk (m : Int) = true := by unfold rangeOk; exact decide_eq_true (by omega)
  exact gv (call_def rfl rfl rfl rfl (exs_retv (r_bf1t (r_comp PyData.int (fun x => !decide (x ∈ w)) PyData.int (upto m) (by rw [← range_upto]; exact r_range1 (r_var rfl) hr) (by rw [upto_len]; unfold lim; omega) fun x hx s => ⟨[.frz (.int m), .frz (rowD w), .frz (.int x)], rfl, r_cmp (r_var rfl) (r_var rfl) (notin_row _ _), fun _ => r_var rfl⟩) (bf_tuple_ints _) rfl)))
def colF (cols : List Int) (x : Int) : Int := cols.getD x.toNat 0
theorem colF_in {cols : List Int} (h : ∀ c ∈ cols, B8 c) (x : Int) : B8 (colF cols x) := by
  unfold colF
  rw [List.getD_eq_getElem?_getD]
  cases e : cols[x.toNat]? with
  | none => exact ⟨by decide, by decide⟩
  | some c => exact h c (List.mem_of_getElem? e)
def freeB (cl : Int → Int) (w : List Int) : Bool := decide (((sumsF cl w).count 0 : Int) = 1)
theorem freeB_iff {cl : Int → Int} (hc : ∀ x, B8 (cl x)) (w : List Int) : freeB cl w = true ↔ IndC cl w := by
  have e : sumsF cl w = sums cl w.reverse := by
    have := sumsF_rev cl w.reverse
    rwa [List.reverse_reverse] at this
  unfold freeB
  rw [decide_eq_true_iff, e, ← ind_perm hc (List.reverse_perm w)]
  unfold IndC
  omega
theorem sumsF_len (cl : Int → Int) (w : List Int) : (sumsF cl w).length = 2 ^ w.length := by
  have e : sumsF cl w = sums cl w.reverse := by
    have := sumsF_rev cl w.reverse
    rwa [List.reverse_reverse] at this
  rw [e, sums_len, List.length_reverse]
theorem item_col {m : Nat} {cols : List Int} (hl : cols.length = m) {x : Int} (hx : 0 ≤ x ∧ x < m) : itemAt (.list (cols.map .int)) (.int x) = some (.int (colF cols x)) := by
  obtain ⟨j, rfl⟩ := Int.eq_ofNat_of_zero_le hx.1
  have jl : j < cols.length := by have := hx.2; omega
  refine item_list ?_
  unfold colF
  rw [List.getElem?_map, List.getElem?_eq_getElem jl, show (((j : Nat) : Int)).toNat = j from rfl, List.getD_eq_getElem?_getD, List.getElem?_eq_getElem jl]
  rfl
def sxB : Ss := (.cons (.assign 4 false (.bin .add (.var 4) (.comp (.bin .xor (.var 6) (.idx (.var 1) (.var 5))) (.name 6) (.over (.var 4)) (.bool true) [6]))) .nil)
def fcB : Ss := (.cons (.assign 4 false (.lst (.cons (.int 0) .nil))) (.cons (.for_ (.name 5) (.over (.var 3)) [1, 2, 3, 4, 6] sxB) (.cons (.if_ (.cmp .eq (.me1 .count (.var 4) (.int 0)) (.int 1)) (.cons (.mut .append 2 (.var 3)) .nil) .nil) .nil)))
theorem lawfree_ok (k m : Nat) (cols : List Int) (s : Src) (hm : m ≤ 7) (hl : cols.length = m) : Gives "_law_free_columns" false (callN Γ (k + 2)) [.int m, .list (cols.map .int)] s (waysD ((sortR (lotsAll m)).filter (freeB (colF cols)))) s := by
  have ll : (sortR (lotsAll m)).length ≤ 128 := by
    rw [(sortR_perm _).length_eq, lotsAll_len]
    exact Nat.pow_le_pow_right (n := 2) (by omega) hm
  obtain ⟨σ', e, rfl⟩ := exs_forI (call := callN Γ (k + 1)) (fuel := fuelW) (t := .name 3) (it := .over (.call "_law_lots" .none (.cons (.var 0) .nil))) (keep := [1, 2, 6]) (body := fcB) (σ := [.frz (.int m), .frz (.list (cols.map .int)), .own (.list []), .no, .no, .no, .no]) (s := s) (s1 := s) rowD (sortR (lotsAll m))
    (fun j σ => σ = [.no, .frz (.list (cols.map .int)), .own (waysD (((sortR (lotsAll m)).take j).filter (freeB (colF cols)))), .no, .no, .no, .no]) rfl (r_over (r_callv (r_es1 (r_var rfl)) (lawlots_ok k m s (by omega)) rfl rfl)) rfl (by
      rintro j w σ hj rfl
      have wl : LotIn m w := mem_lotsAll.mp ((sortR_perm _).mem_iff.mp (List.mem_of_getElem? hj))
      have wn := wl.len
      have tk : (sortR (lotsAll m)).take (j + 1) = (sortR (lotsAll m)).take j ++ [w] := by rw [List.take_add_one, hj]; rfl
      have tl := (List.take_sublist j (sortR (lotsAll m))).length_le
      have fl := List.length_filter_le (freeB (colF cols)) ((sortR (lotsAll m)).take j)
      rw [tk, List.filter_append]
      revert fl
      generalize ((sortR (lotsAll m)).take j).filter (freeB (colF cols)) = fs
      intro fl
      obtain ⟨σ2, e2, rfl⟩ := exs_forI (call := callN Γ (k + 1)) (fuel := fuelW) (t := .name 5) (it := .over (.var 3)) (keep := [1, 2, 3, 4, 6]) (body := sxB) (σ := [.no, .frz (.list (cols.map .int)), .own (waysD fs), .frz (rowD w), .frz (.list [.int 0]), .no, .no]) (s := s) (s1 := s) PyData.int w
        (fun i σ => σ = [.no, .frz (.list (cols.map .int)), .own (waysD fs), .frz (rowD w), .frz (.list ((sumsF (colF cols) (w.take i)).map .int)), .no, .no]) rfl (r_overT (r_var rfl)) rfl (by
          rintro i x σ hi rfl
          have tk2 : w.take (i + 1) = w.take i ++ [x] := by rw [List.take_add_one, hi]; rfl
          have sl := sumsF_len (colF cols) (w.take i)
          have il := (List.take_sublist i w).length_le
          have sb : (sumsF (colF cols) (w.take i)).length ≤ 128 := by
            rw [sl]
            exact Nat.pow_le_pow_right (n := 2) (by omega) (show (w.take i).length ≤ 7 by omega)
          have es : sumsF (colF cols) (w.take (i + 1)) = sumsF (colF cols) (w.take i) ++ (sumsF (colF cols) (w.take i)).map fun v => xo v (colF cols x) := by
            rw [tk2]
            unfold sumsF
            rw [List.foldl_append]
            rfl
          rw [es]
          revert sb
          generalize sumsF (colF cols) (w.take i) = T
          intro sb
          have ic := item_col hl (wl.2 x (List.mem_of_getElem? hi))
          have c1 : ev (callN Γ (k + 1)) true (.comp (.bin .xor (.var 6) (.idx (.var 1) (.var 5))) (.name 6) (.over (.var 4)) (.bool true) [6]) [.no, .frz (.list (cols.map .int)), .own (waysD fs), .frz (rowD w), .frz (.list (T.map .int)), .frz (.int x), .no] s = some (.list ((T.map fun v => xo v (colF cols x)).map .int), s) := by
            rw [List.map_map]
            exact r_comp1 PyData.int (fun v => .int (xo v (colF cols x))) T (r_over (r_var rfl)) (by unfold lim; omega) fun v hv s => ⟨[.no, .frz (.list (cols.map .int)), .own (waysD fs), .frz (rowD w), .frz (.list (T.map .int)), .frz (.int x), .frz (.int v)], rfl, r_bin (r_var rfl) (r_idx (r_var rfl) (r_var rfl) ic) rfl⟩
          exact ⟨_, _, rfl, exs_step (q_assign (r_bin (r_var rfl) c1 (bop_add_ints _ _ (by rw [List.length_map]; unfold lim; omega))) rfl) exs_nil, rfl⟩)
      rw [List.take_length] at e2
      have c3 : ev (callN Γ (k + 1)) false (.cmp .eq (.me1 .count (.var 4) (.int 0)) (.int 1)) [.no, .frz (.list (cols.map .int)), .own (waysD fs), .frz (rowD w), .frz (.list ((sumsF (colF cols) w).map .int)), .no, .no] s = some (.bool (freeB (colF cols) w), s) := r_cmp (r_count (r_var rfl) (r_int 0)) (r_int 1) (cop_eq_int _ _)
      have t0 : exec (callN Γ (k + 1)) fuelW (.assign 4 false (.lst (.cons (.int 0) .nil))) [.no, .frz (.list (cols.map .int)), .own (waysD fs), .frz (rowD w), .no, .no, .no] s = some (.next [.no, .frz (.list (cols.map .int)), .own (waysD fs), .frz (rowD w), .frz (.list [.int 0]), .no, .no], s) := q_assign (r_lst (r_es1 (r_int 0)) (show 1 ≤ lim by decide)) rfl
      cases q : freeB (colF cols) w with
      | true =>
        rw [q] at c3
        have st := q_append (call := callN Γ (k + 1)) (fuel := fuelW) (x := 2) (e := .var 3) (σ := [.no, .frz (.list (cols.map .int)), .own (waysD fs), .frz (rowD w), .frz (.list ((sumsF (colF cols) w).map .int)), .no, .no]) (s := s) (s1 := s) (d := rowD w) (xs := fs.map rowD) (r_var rfl) rfl (by rw [List.length_map]; unfold lim; omega)
        rw [show [w].filter (freeB (colF cols)) = [w] by simp [q]]
        rw [show fs.map rowD ++ [rowD w] = (fs ++ [w]).map rowD by rw [List.map_append]; rfl] at st
        exact ⟨_, _, rfl, exs_step t0 (exs_step e2 (exs_step (q_yes c3 rfl (exs_step st exs_nil)) exs_nil)), rfl⟩
      | false =>
        rw [q] at c3
        rw [show [w].filter (freeB (colF cols)) = [] by simp [q], List.append_nil]
        exact ⟨_, _, rfl, exs_step t0 (exs_step e2 (exs_step (q_no c3 rfl) exs_nil)), rfl⟩)
  rw [List.take_length] at e
  exact gv (call_def rfl rfl rfl rfl (exs_step (q_assign r_lst0 rfl) (exs_step e (exs_retv (r_var rfl)))))
/-- the greatest of some lots -/
theorem lawbasesX_ok (k m : Nat) (fs : List (List Int)) (s : Src) (hl : fs.length ≤ 1000) {r : Nat} (h1 : ∃ w ∈ fs, w.length = r) (h2 : ∀ w ∈ fs, w.length ≤ r) : Gives "_law_bases" false (callN Γ (k + 1)) [.int m, waysD fs] s (memD m (sortR (fs.filter fun w => decide ((w.length : Int) = r)))) s := by
  have fl := List.length_filter_le (fun w : List Int => decide ((w.length : Int) = r)) fs
  have c1 : ev (callN Γ k) false (.bf .max1 (.cons (.comp (.bf .len (.cons (.var 3) .nil)) (.name 3) (.over (.var 1)) (.bool true) [3]) .nil)) [.frz (.int m), .frz (waysD fs), .no, .no] s = some (.int (r : Nat), s) :=
    max_len (fun _ => true) (r_over (r_var rfl)) hl (let ⟨w, a, b⟩ := h1; ⟨w, a, rfl, by rw [b]⟩) (fun w hw _ => by have := h2 w hw; omega) (fun w hw s => ⟨[.frz (.int m), .frz (waysD fs), .no, .frz (rowD w)], rfl, r_bool true, r_var rfl⟩) false
  exact gv (call_def rfl rfl rfl rfl (exs_step (q_assign c1 rfl) (exs_retv (r_tup (r_es (r_var rfl) (r_es1 (r_bf1t (r_bf1t (r_comp rowD (fun w : List Int => decide ((w.length : Int) = r)) rowD fs (r_over (r_var rfl)) (by unfold lim; omega) fun w hw s => ⟨[.frz (.int m), .frz (waysD fs), .frz (.int (r : Nat)), .frz (rowD w)], rfl, r_cmp (r_bf1t (r_var rfl) (bf_len_row _) rfl) (r_var rfl) (cop_eq_int _ _), fun _ => r_var rfl⟩) (bf_sorted_ways _ (by unfold lim; omega)) rfl) (bf_tuple_ways _) rfl))) (show 2 ≤ lim by decide)))))
/-- a list of free lots gives a system -/
theorem sys_of {m r : Nat} {Ind : List Int → Prop} {fs : List (List Int)} (M : Mat Ind) (hf : ∀ w, w ∈ fs ↔ LotIn m w ∧ Ind w) (h1 : ∃ w ∈ fs, w.length = r) (h2 : ∀ w ∈ fs, w.length ≤ r) : Sys m r Ind (sortR (fs.filter fun w => decide ((w.length : Int) = r))) := by
  refine ⟨M, fun w => ?_, fun w hw hi => h2 w ((hf w).mpr ⟨hw, hi⟩), fun e => ?_⟩
  · rw [(sortR_perm _).mem_iff, List.mem_filter, hf, decide_eq_true_iff, Int.ofNat_inj, and_assoc]
  · obtain ⟨w, a, b⟩ := h1
    have : w ∈ sortR (fs.filter fun w => decide ((w.length : Int) = r)) := (sortR_perm _).mem_iff.mpr (List.mem_filter.mpr ⟨a, by rw [b]; exact decide_eq_true rfl⟩)
    rw [e] at this
    exact absurd this (by simp)
/-- what is drawn -/
structure Dr (m r : Nat) (Ind : List Int → Prop) (bs : List (List Int)) : Prop where
  sys : Sys m r Ind bs
  asc : bs.Pairwise (· < ·)
  len : bs.length ≤ 128
theorem sys_asc {m r : Nat} {Ind : List Int → Prop} {fs : List (List Int)} (hm : m ≤ 7) (S : Sys m r Ind (sortR fs)) (nd : fs.Nodup) : Dr m r Ind (sortR fs) := by
  refine ⟨S, sortR_asc nd, ?_⟩
  have ll : (lotsAll m).length ≤ 128 := by
    rw [lotsAll_len]
    exact Nat.pow_le_pow_right (n := 2) (by omega) hm
  exact Nat.le_trans (List.Nodup.length_le_of_subset ((sortR_perm fs).nodup_iff.mpr nd) fun w hw => mem_lotsAll.mpr ((S.mem w).mp hw).1) ll
theorem Dr.nd {m r : Nat} {Ind : List Int → Prop} {bs : List (List Int)} (D : Dr m r Ind bs) : bs.Nodup := List.nodup_iff_pairwise_ne.mpr (D.asc.imp fun {a b} q e => by subst e; exact List.lt_irrefl _ q)
theorem Dr.lot {m r : Nat} {Ind : List Int → Prop} {bs : List (List Int)} (D : Dr m r Ind bs) : ∀ b ∈ bs, LotIn m b := fun b hb => ((D.sys.mem b).mp hb).1
theorem Dr.rest {m r : Nat} {Ind : List Int → Prop} {bs : List (List Int)} (hm : m ≤ 7) (D : Dr m r Ind bs) : Dr m (m - r) (IndD m r Ind) (sortR (bs.map (restR m))) :=
  sys_asc hm D.sys.dual (map_nodup (restR m) D.nd fun x hx y hy e => restR_inj (D.lot x hx) (D.lot y hy) e)
end Mp

/-! X4: _law_system. -/
namespace Mp
open PySem
theorem most_exX {ks : List (List Int)} (h0 : ks ≠ []) : ∃ r : Nat, (∃ w ∈ ks, w.length = r) ∧ ∀ w ∈ ks, w.length ≤ r := by
  obtain ⟨h1, h2, h3⟩ := foldl_max (ks.map List.length) 0
  refine ⟨(ks.map List.length).foldl Nat.max 0, ?_, fun w hw => h2 _ (List.mem_map.mpr ⟨w, hw, rfl⟩)⟩
  rcases h3 with h | h
  · obtain ⟨v, hv⟩ := List.exists_mem_of_ne_nil ks h0
    have := h2 _ (List.mem_map.mpr ⟨v, hv, rfl⟩)
    exact ⟨v, hv, by omega⟩
  · obtain ⟨v, hv, e⟩ := List.mem_map.mp h
    exact ⟨v, hv, e⟩
def yS0 : S := (.assign 2 false (.comp (.call "_law_pick" (.some 0) (.cons (.call "_law_of" (.some 0) (.cons (.lst (.cons (.int 2) (.cons (.int 4) (.cons (.int 8) .nil)))) .nil)) .nil)) (.name 5) (.range1 (.var 1)) (.bool true) [5]))
def yS1 : S := (.assign 3 false (.call "_law_bases" .none (.cons (.var 1) (.cons (.call "_law_free_columns" .none (.cons (.var 1) (.cons (.var 2) .nil))) .nil))))
def yS2 : S := (.assign 4 false (.comp (.bf .tuple (.cons (.comp (.var 5) (.name 5) (.range1 (.var 1)) (.cmp .eq (.call "_law_pick" (.some 0) (.cons (.int 2) .nil)) (.int 0)) [5]) .nil)) (.name 6) (.range1 (.call "_law_pick" (.some 0) (.cons (.int 5) .nil))) (.bool true) [6]))
def yS3 : S := (.assign 3 false (.call "_law_bases" .none (.cons (.var 1) (.cons (.call "_law_given" .none (.cons (.var 4) .nil)) .nil))))
theorem rg_m {m : Nat} (hm : m ≤ 7) {call : Call} {b : Bool} {σ : Ev} {s s1 : Src} {x : E} (h : ev call false x σ s = some (.int (m : Int), s1)) : evI call b (.range1 x) σ s = some ((upto m).map .int, s1) := by
  rw [← range_upto]
  exact r_range1 h (by unfold rangeOk; exact decide_eq_true (by omega))
theorem draw_cols (k m : Nat) (s : Src) (hm : m ≤ 7) : ∃ (cols : List Int) (s' : Src), exec (callN Γ (k + 3)) fuelW yS0 [.src, .frz (.int m), .no, .no, .no, .no, .no, .no] s = some (.next [.src, .frz (.int m), .frz (.list (cols.map .int)), .no, .no, .no, .no, .no], s') ∧ cols.length = m ∧ ∀ c ∈ cols, B8 c := by
  obtain ⟨xs, s', e, cols, rfl, h1, h2⟩ := r_comp_inv (call := callN Γ (k + 3)) (b := false) (σ := [.src, .frz (.int m), .no, .no, .no, .no, .no, .no]) (s := s) (s1 := s) (elt := .call "_law_pick" (.some 0) (.cons (.call "_law_of" (.some 0) (.cons (.lst (.cons (.int 2) (.cons (.int 4) (.cons (.int 8) .nil)))) .nil)) .nil)) (t := .name 5) (it := .range1 (.var 1)) (own := [5]) (ds := (upto m).map .int)
    (fun j acc _ => ∃ cols : List Int, acc = cols.map .int ∧ cols.length = j ∧ ∀ c ∈ cols, B8 c) (rg_m hm (r_var rfl)) ⟨[], rfl, rfl, fun c hc => absurd hc (by simp)⟩ (by
      rintro j d acc s hj ⟨cols, rfl, h1, h2⟩
      have jl := (List.getElem?_eq_some_iff.mp hj).1
      rw [List.length_map, upto_len] at jl
      obtain ⟨o, s1, e1, ho⟩ := of_ok (k + 1) [.int 2, .int 4, .int 8] _ rfl s (by simp) (by simp)
      obtain ⟨a, rfl, a0, a1⟩ : ∃ a : Int, o = .int a ∧ 1 ≤ a ∧ a ≤ 8 := by
        simp only [List.mem_cons, List.not_mem_nil, or_false] at ho
        rcases ho with rfl | rfl | rfl
        · exact ⟨2, rfl, by omega, by omega⟩
        · exact ⟨4, rfl, by omega, by omega⟩
        · exact ⟨8, rfl, by omega, by omega⟩
      obtain ⟨z, s2, e2, z0, z1⟩ := pick_call (k + 2) s1 a (by omega) (by omega)
      refine ⟨by rw [List.length_map]; unfold lim; omega, [.src, .frz (.int m), .no, .no, .no, .frz d, .no, .no], .int z, s2, rfl, r_callv (r_es1 (r_callv (r_es1 (r_lst (r_es (r_int 2) (r_es (r_int 4) (r_es1 (r_int 8)))) (show 3 ≤ lim by decide))) (gv e1) rfl rfl)) (gv e2) rfl rfl, cols ++ [z], by rw [List.map_append]; rfl, by rw [List.length_append, h1]; rfl, fun c hc => ?_⟩
      rcases List.mem_append.mp hc with hc | hc
      · exact h2 c hc
      · rw [List.mem_singleton.mp hc]
        exact ⟨z0, by omega⟩)
  rw [List.length_map, upto_len] at h1
  exact ⟨cols, s', q_assign e rfl, h1, h2⟩
theorem draw_lot2 (k m : Nat) (x6 : Slot) (s : Src) (hm : m ≤ 7) : ∃ (w : List Int) (s' : Src), ev (callN Γ (k + 3)) false (.bf .tuple (.cons (.comp (.var 5) (.name 5) (.range1 (.var 1)) (.cmp .eq (.call "_law_pick" (.some 0) (.cons (.int 2) .nil)) (.int 0)) [5]) .nil)) [.src, .frz (.int m), .no, .no, .no, .no, x6, .no] s = some (rowD w, s') ∧ LotIn m w := by
  obtain ⟨xs, s1, e, w, rfl, hw⟩ := r_comp_invT (call := callN Γ (k + 3)) (b := true) (σ := [.src, .frz (.int m), .no, .no, .no, .no, x6, .no]) (s := s) (s1 := s) (elt := .var 5) (c := .cmp .eq (.call "_law_pick" (.some 0) (.cons (.int 2) .nil)) (.int 0)) (t := .name 5) (it := .range1 (.var 1)) (own := [5]) (ds := (upto m).map .int)
    (fun j acc _ => ∃ w : List Int, acc = w.map .int ∧ LotIn j w) (rg_m hm (r_var rfl)) ⟨[], rfl, List.Pairwise.nil, fun x hx => absurd hx (by simp)⟩ (by
      rintro j d acc s hj ⟨w, rfl, hw⟩
      rw [List.getElem?_map] at hj
      obtain ⟨x, hx, rfl⟩ := Option.map_eq_some_iff.mp hj
      obtain ⟨rfl, hjm⟩ := upto_get hx
      have wl := hw.len
      obtain ⟨z, s2, e2, _, _⟩ := pick_call (k + 2) s 2 (by omega) (by omega)
      refine ⟨by rw [List.length_map]; unfold lim; omega, [.src, .frz (.int m), .no, .no, .no, .frz (.int (j : Int)), x6, .no], decide (z = 0), s2, rfl, ?_, fun _ => ⟨w, rfl, hw.1, fun x hx => by have := hw.2 x hx; omega⟩, fun _ => ⟨.int (j : Int), r_var rfl, w ++ [(j : Int)], by rw [List.map_append]; rfl, ?_⟩⟩
      · exact r_cmp (r_callv (r_es1 (r_int 2)) (gv e2) rfl rfl) (r_int 0) (cop_eq_int _ _)
      · exact mem_lotsAll.mp (List.mem_append_right _ (List.mem_map.mpr ⟨w, mem_lotsAll.mpr hw, rfl⟩)))
  rw [List.length_map, upto_len] at hw
  exact ⟨w, s1, r_bf1t e (bf_tuple_ints w) rfl, hw⟩
theorem draw_lots (k m : Nat) (s : Src) (hm : m ≤ 7) : ∃ (lots : List (List Int)) (s' : Src), exec (callN Γ (k + 3)) fuelW yS2 [.src, .frz (.int m), .no, .no, .no, .no, .no, .no] s = some (.next [.src, .frz (.int m), .no, .no, .frz (waysD lots), .no, .no, .no], s') ∧ lots.length ≤ 5 ∧ ∀ l ∈ lots, LotIn m l := by
  obtain ⟨z, s1, e1, z0, z1⟩ := pick_call (k + 2) s 5 (by omega) (by omega)
  obtain ⟨z, rfl⟩ := Int.eq_ofNat_of_zero_le z0
  obtain ⟨xs, s', e, lots, rfl, h1, h2⟩ := r_comp_inv (call := callN Γ (k + 3)) (b := false) (σ := [.src, .frz (.int m), .no, .no, .no, .no, .no, .no]) (s := s) (s1 := s1) (elt := .bf .tuple (.cons (.comp (.var 5) (.name 5) (.range1 (.var 1)) (.cmp .eq (.call "_law_pick" (.some 0) (.cons (.int 2) .nil)) (.int 0)) [5]) .nil)) (t := .name 6) (it := .range1 (.call "_law_pick" (.some 0) (.cons (.int 5) .nil))) (own := [6]) (ds := (upto z).map .int)
    (fun j acc _ => ∃ lots : List (List Int), acc = lots.map rowD ∧ lots.length = j ∧ ∀ l ∈ lots, LotIn m l) (rg_m (by omega) (r_callv (r_es1 (r_int 5)) (gv e1) rfl rfl)) ⟨[], rfl, rfl, fun c hc => absurd hc (by simp)⟩ (by
      rintro j d acc s hj ⟨lots, rfl, h1, h2⟩
      have jl := (List.getElem?_eq_some_iff.mp hj).1
      rw [List.length_map, upto_len] at jl
      obtain ⟨w, s2, e2, hw⟩ := draw_lot2 k m (.frz d) s hm
      refine ⟨by rw [List.length_map]; unfold lim; omega, [.src, .frz (.int m), .no, .no, .no, .no, .frz d, .no], rowD w, s2, rfl, e2, lots ++ [w], by rw [List.map_append]; rfl, by rw [List.length_append, h1]; rfl, fun c hc => ?_⟩
      rcases List.mem_append.mp hc with hc | hc
      · exact h2 c hc
      · rw [List.mem_singleton.mp hc]
        exact hw)
  rw [List.length_map, upto_len] at h1
  exact ⟨lots, s', q_assign e rfl, by omega, h2⟩
def yI : S := (.if_ (.cmp .eq (.call "_law_pick" (.some 0) (.cons (.int 2) .nil)) (.int 0)) (.cons yS0 (.cons yS1 .nil)) (.cons yS2 (.cons yS3 .nil)))
theorem draw_sys (k m : Nat) (s : Src) (hm : m ≤ 7) : ∃ (bs : List (List Int)) (r : Nat) (Ind : List Int → Prop) (s' : Src) (x2 x4 : Slot), exec (callN Γ (k + 3)) fuelW yI [.src, .frz (.int m), .no, .no, .no, .no, .no, .no] s = some (.next [.src, .frz (.int m), x2, .frz (memD m bs), x4, .no, .no, .no], s') ∧ Dr m r Ind bs := by
  have lA : (sortR (lotsAll m)).length ≤ 128 := by
    rw [(sortR_perm _).length_eq, lotsAll_len]
    exact Nat.pow_le_pow_right (n := 2) (by omega) hm
  have ndA : (sortR (lotsAll m)).Nodup := (sortR_perm _).nodup_iff.mpr (lotsAll_nodup m)
  obtain ⟨z, s1, e1, z0, z1⟩ := pick_call (k + 2) s 2 (by omega) (by omega)
  have c0 : ev (callN Γ (k + 3)) false (.cmp .eq (.call "_law_pick" (.some 0) (.cons (.int 2) .nil)) (.int 0)) [.src, .frz (.int m), .no, .no, .no, .no, .no, .no] s = some (.bool (decide (z = 0)), s1) := r_cmp (r_callv (r_es1 (r_int 2)) (gv e1) rfl rfl) (r_int 0) (cop_eq_int _ _)
  by_cases q : z = 0
  · obtain ⟨cols, s2, t0, h1, h2⟩ := draw_cols k m s1 hm
    have e2 := lawfree_ok (k + 1) m cols s2 hm h1
    have fl := List.length_filter_le (freeB (colF cols)) (sortR (lotsAll m))
    have hf : ∀ w, w ∈ (sortR (lotsAll m)).filter (freeB (colF cols)) ↔ LotIn m w ∧ IndC (colF cols) w := fun w => by
      rw [List.mem_filter, (sortR_perm _).mem_iff, mem_lotsAll, freeB_iff (colF_in h2)]
    have f0 : (sortR (lotsAll m)).filter (freeB (colF cols)) ≠ [] := fun e => by
      have : [] ∈ (sortR (lotsAll m)).filter (freeB (colF cols)) := (hf []).mpr ⟨⟨List.Pairwise.nil, fun x hx => absurd hx (by simp)⟩, (col_mat (colF_in h2)).nil⟩
      rw [e] at this
      exact absurd this (by simp)
    obtain ⟨r, m1, m2⟩ := most_exX f0
    have S := sys_of (col_mat (colF_in h2)) hf m1 m2
    have D := sys_asc hm S ((ndA.filter _).filter _)
    exact ⟨_, r, _, s2, _, _, q_yes c0 (decide_eq_true q) (exs_step t0 (exs_step (q_assign (r_callv (r_es (r_var rfl) (r_es1 (r_callv (r_es (r_var rfl) (r_es1 (r_var rfl))) e2 rfl rfl))) (lawbasesX_ok (k + 2) m _ s2 (by omega) m1 m2) rfl rfl) rfl) exs_nil)), D⟩
  · obtain ⟨lots, s2, t0, h1, h2⟩ := draw_lots k m s1 hm
    obtain ⟨ks, e2, ko, k0, hk⟩ := lawgivenL_ok (k + 2) m lots s2 hm h2
    have kl := ko.len hm
    have sl : (sortR ks).length ≤ 128 := by rw [(sortR_perm ks).length_eq]; exact kl
    have hf : ∀ w, w ∈ sortR ks ↔ LotIn m w ∧ Given lots w := fun w => by rw [(sortR_perm ks).mem_iff, hk]
    have f0 : sortR ks ≠ [] := fun e => k0 (by
      have := (sortR_perm ks).length_eq
      rw [e] at this
      exact List.length_eq_zero_iff.mp this.symm)
    obtain ⟨r, m1, m2⟩ := most_exX f0
    have S := sys_of (given_mat (by omega) fun l hl => by have := (h2 l hl).len; omega) hf m1 m2
    have D := sys_asc hm S (((sortR_perm ks).nodup_iff.mpr ko.nd).filter _)
    exact ⟨_, r, _, s2, _, _, q_else c0 (decide_eq_false q) (exs_step t0 (exs_step (q_assign (r_callv (r_es (r_var rfl) (r_es1 (r_callv (r_es1 (r_var rfl)) e2 rfl rfl))) (lawbasesX_ok (k + 2) m _ s2 (by omega) m1 m2) rfl rfl) rfl) exs_nil)), D⟩
theorem lawsystem_ok (k m : Nat) (s : Src) (hm : m ≤ 7) : ∃ (bs : List (List Int)) (r : Nat) (Ind : List Int → Prop) (s' : Src), Gives "_law_system" true (callN Γ (k + 4)) [.int m] s (memD m bs) s' ∧ Dr m r Ind bs := by
  obtain ⟨bs, r, Ind, s1, x2, x4, t0, D⟩ := draw_sys k m s hm
  obtain ⟨z, s2, e2, _, _⟩ := pick_call (k + 2) s1 3 (by omega) (by omega)
  have bl := D.len
  have c0 : ev (callN Γ (k + 3)) false (.cmp .eq (.call "_law_pick" (.some 0) (.cons (.int 3) .nil)) (.int 0)) [.src, .frz (.int m), x2, .frz (memD m bs), x4, .no, .no, .no] s1 = some (.bool (decide (z = 0)), s2) := r_cmp (r_callv (r_es1 (r_int 3)) (gv e2) rfl rfl) (r_int 0) (cop_eq_int _ _)
  by_cases q : z = 0
  · have c1 : ev (callN Γ (k + 3)) true (.comp (.call "_law_rest" .none (.cons (.var 1) (.cons (.var 7) .nil))) (.name 7) (.over (.idx (.var 3) (.int 1))) (.bool true) [7]) [.src, .frz (.int m), x2, .frz (memD m bs), x4, .no, .no, .no] s2 = some (waysD (bs.map (restR m)), s2) := by
      unfold waysD
      rw [List.map_map]
      exact r_comp1 rowD (fun w => rowD (restR m w)) bs (r_overT (r_idx (r_var rfl) (r_int 1) rfl)) (by unfold lim; omega) fun w hw s => ⟨[.src, .frz (.int m), x2, .frz (memD m bs), x4, .no, .no, .frz (rowD w)], rfl, r_callv (r_es (r_var rfl) (r_es1 (r_var rfl))) (lawrest_ok (k + 2) m w s (by omega)) rfl rfl⟩
    exact ⟨_, _, _, s2, gv (call_def rfl rfl rfl rfl (exs_step t0 (exs_if_ret c0 (decide_eq_true q) (exs_retv (r_tup (r_es (r_var rfl) (r_es1 (r_bf1t (r_bf1t c1 (bf_sorted_ways _ (by rw [List.length_map]; unfold lim; omega)) rfl) (bf_tuple_ways _) rfl))) (show 2 ≤ lim by decide)))))), D.rest hm⟩
  · exact ⟨_, _, _, s2, gv (call_def rfl rfl rfl rfl (exs_step t0 (exs_no c0 (decide_eq_false q) (exs_retv (r_var rfl))))), D⟩
end Mp

/-! PB0: dicts of lots put one after another. -/
namespace Mp
open PySem
def kputs (ks ws : List (List Int)) : List (List Int) := ws.foldl kput ks
theorem mem_kputs : ∀ (ws ks : List (List Int)) (v : List Int), v ∈ kputs ks ws ↔ v ∈ ks ∨ v ∈ ws
  | [], ks, v => by simp [kputs]
  | w :: ws, ks, v => by
    show v ∈ kputs (kput ks w) ws ↔ _
    rw [mem_kputs ws, mem_kput, List.mem_cons, or_assoc]
theorem kput_len (ks : List (List Int)) (w : List Int) : (kput ks w).length ≤ ks.length + 1 := by
  unfold kput
  split
  · omega
  · rw [List.length_append, List.length_singleton]
    omega
theorem kputs_len : ∀ (ws ks : List (List Int)), (kputs ks ws).length ≤ ks.length + ws.length
  | [], ks => Nat.le_refl _
  | w :: ws, ks => by
    have h1 := kputs_len ws (kput ks w)
    have h2 := kput_len ks w
    show (kputs (kput ks w) ws).length ≤ _
    rw [List.length_cons]
    omega
theorem KO.puts {m : Nat} : ∀ {ws ks : List (List Int)}, KO m ks → (∀ w ∈ ws, LotIn m w) → KO m (kputs ks ws)
  | [], ks, h, _ => h
  | w :: ws, ks, h, hw => (KO.puts (h.put (hw w (.head _))) fun v hv => hw v (.tail _ hv) : KO m (kputs (kput ks w) ws))
theorem dputs_ks : ∀ (ws ks : List (List Int)), ks.length + ws.length ≤ lim → dputs (ksL ks) (ws.map fun w => (rowD w, .int 0)) = some (ksL (kputs ks ws))
  | [], ks, _ => rfl
  | w :: ws, ks, hl => by
    rw [List.length_cons] at hl
    have h2 := kput_len ks w
    show (if keyFits (ksL ks) (rowD w) && decide ((ksL ks).length < lim) then dputs (dput (ksL ks) (rowD w) (.int 0)) _ else none) = _
    rw [ks_fits, ksL_len, Bool.true_and, if_pos (decide_eq_true (by omega)), ks_put]
    exact dputs_ks ws (kput ks w) (by omega)
theorem as_pairs0 (w : List (List Int)) : asPairs (w.map fun x => .tuple [rowD x, .int 0]) = some (w.map fun x => (rowD x, .int 0)) := by
  induction w with
  | nil => rfl
  | cons x w ih =>
    show (asPairs (w.map fun x => .tuple [rowD x, .int 0])).map _ = _
    rw [ih]
    rfl
theorem bf_dict_rows (ws : List (List Int)) (hl : ws.length ≤ lim) : bf .dict [.list (ws.map fun x => .tuple [rowD x, .int 0])] = some (ksD (kputs [] ws)) := by
  show (asPairs _).bind (fun kvs => (dputs [] kvs).map PyData.dict) = _
  rw [as_pairs0]
  show (dputs (ksL []) _).map PyData.dict = _
  rw [dputs_ks ws [] (by rw [List.length_nil]; omega)]
  rfl
end Mp

/-! J1: k15: system papers, by the program and by the law. -/
namespace Mp
open PySem
def sizeG (z w : List Int) : Option D := if w.length = z.length then none else some (.tuple [.str (sN "sizes"), rowD z, rowD w])
def goesL (lots : List (List Int)) (one other : List Int) (a : Int) : List Int := other.filter fun b => !decide (b ∈ one) && decide (putR one a b ∈ lots)
def exG (lots : List (List Int)) (one other : List Int) (a : Int) : Option D := if goesL lots one other a = [] then some (.tuple [.str (sN "exchange"), rowD one, rowD other, .int a]) else none
def exO (lots : List (List Int)) (one other : List Int) : Option D := (one.filter fun a => !decide (a ∈ other)).findSome? (exG lots one other)
def exT (lots : List (List Int)) (one : List Int) : Option D := lots.findSome? (exO lots one)
def sysD : D := .tuple [.str (sN "system")]
def paperS (lots : List (List Int)) : D := (lots.findSome? (sizeG (lots.headD []))).getD ((lots.findSome? (exT lots)).getD sysD)
theorem in_lotsT (w : List Int) (ws : List (List Int)) : cop .isin (rowD w) (.tuple (ws.map rowD)) = some (decide (w ∈ ws)) := (inSeq_map (k := 1) rowD eqv_row (fun a => pl_row a) (by omega) w ws).trans (by simp)
theorem head0 {lots : List (List Int)} (h0 : lots ≠ []) : itemAt (.tuple (lots.map rowD)) (.int 0) = some (rowD (lots.headD [])) := by
  cases lots with
  | nil => exact absurd rfl h0
  | cons w ws => exact item_tuple (j := 0) rfl
section
variable {m : Int} {lots : List (List Int)} (h0 : lots ≠ []) (hl : lots.length ≤ 1000) (hb : ∀ w ∈ lots, w.length ≤ 1000)
abbrev prD (m : Int) (lots : List (List Int)) : D := .tuple [.int m, .tuple (lots.map rowD)]
include h0 hl hb
theorem syspaper_gen (nd : lots.Nodup) (k : Nat) (s : Src) : Gives "system_paper" false (callN Γ (k + 2)) [prD m lots] s (paperS lots) s := by
  obtain ⟨kvs, d1, d2⟩ := known_dict lots nd (by omega)
  have c1 : ev (callN Γ (k + 1)) true (.comp (.tup (.cons (.var 3) (.cons (.bool true) .nil))) (.name 3) (.over (.var 1)) (.bool true) [3]) [.frz (prD m lots), .frz (.tuple (lots.map rowD)), .no, .no, .no, .no, .no, .no] s = some (.list (lots.map fun x => .tuple [rowD x, .bool true]), s) :=
    r_comp1 rowD (fun x => .tuple [rowD x, .bool true]) lots (r_overT (r_var rfl)) (by unfold lim; omega) fun w h s => ⟨[.frz (prD m lots), .frz (.tuple (lots.map rowD)), .no, .frz (rowD w), .no, .no, .no, .no], rfl, r_tup (r_es (r_var rfl) (r_es1 (r_bool true))) (show 2 ≤ lim by decide)⟩
  have i0 := head0 h0
  have p1 := for_pick (call := callN Γ (k + 1)) (fuel := fuelW) (t := .name 4) (it := .over (.var 1)) (keep := [1, 2, 6, 7]) (body := sB) (σ := [.frz (prD m lots), .frz (.tuple (lots.map rowD)), .frz (.dict kvs), .no, .no, .no, .no, .no]) (s := s) rowD (sizeG (lots.headD [])) (fun σ => σ = [.no, .frz (.tuple (lots.map rowD)), .frz (.dict kvs), .no, .no, .no, .no, .no]) (xs := lots) rfl (r_overT (r_var rfl)) rfl (by
    rintro w hw σ rfl
    refine ⟨[.no, .frz (.tuple (lots.map rowD)), .frz (.dict kvs), .no, .frz (rowD w), .no, .no, .no], rfl, ?_⟩
    have c2 : ev (callN Γ (k + 1)) false (.cmp .ne (.bf .len (.cons (.var 4) .nil)) (.bf .len (.cons (.idx (.var 1) (.int 0)) .nil))) [.no, .frz (.tuple (lots.map rowD)), .frz (.dict kvs), .no, .frz (rowD w), .no, .no, .no] s = some (.bool (!decide ((w.length : Int) = (lots.headD []).length)), s) := r_cmp (r_bf1t (r_var rfl) (bf_len_row w) rfl) (r_bf1t (r_idx (r_var rfl) (r_int 0) i0) (bf_len_row _) rfl) (cop_ne_int _ _)
    unfold sizeG
    by_cases q : w.length = (lots.headD []).length
    · rw [if_pos q]
      exact ⟨_, exs_step (q_no c2 (by rw [decide_eq_true (by omega)]; rfl)) exs_nil, rfl⟩
    · rw [if_neg q]
      exact exs_if_ret c2 (by rw [decide_eq_false (by omega)]; rfl) (exs_retv (r_tup (r_es (r_str _) (r_es (r_idx (r_var rfl) (r_int 0) i0) (r_es1 (r_var rfl)))) (show 3 ≤ lim by decide))))
  have p2 := for_pick (call := callN Γ (k + 1)) (fuel := fuelW) (t := .name 4) (it := .over (.var 1)) (keep := [1, 2, 6, 7]) (body := eB) (σ := [.no, .frz (.tuple (lots.map rowD)), .frz (.dict kvs), .no, .no, .no, .no, .no]) (s := s) rowD (exT lots) (fun σ => ∃ x6 : Slot, σ = [.no, .frz (.tuple (lots.map rowD)), .frz (.dict kvs), .no, .no, .no, x6, .no]) (xs := lots) rfl (r_overT (r_var rfl)) ⟨.no, rfl⟩ (by
    rintro one h1 σ ⟨x6, rfl⟩
    have l1 := hb one h1
    refine ⟨[.no, .frz (.tuple (lots.map rowD)), .frz (.dict kvs), .no, .frz (rowD one), .no, x6, .no], rfl, ?_⟩
    refine found_body (Q := fun σ => ∃ x6 : Slot, σ = [.no, .frz (.tuple (lots.map rowD)), .frz (.dict kvs), .no, .frz (rowD one), .no, x6, .no]) (Q2 := fun σ => ∃ x6 : Slot, σ = [.no, .frz (.tuple (lots.map rowD)), .frz (.dict kvs), .no, .no, .no, x6, .no]) (keep := [1, 2, 6, 7]) (for_pick (call := callN Γ (k + 1)) (fuel := fuelW) (t := .name 5) (it := .over (.var 1)) (keep := [1, 2, 4, 6, 7]) (body := oB) (σ := [.no, .frz (.tuple (lots.map rowD)), .frz (.dict kvs), .no, .frz (rowD one), .no, x6, .no]) (s := s) rowD (exO lots one) (fun σ => ∃ x6 : Slot, σ = [.no, .frz (.tuple (lots.map rowD)), .frz (.dict kvs), .no, .frz (rowD one), .no, x6, .no]) (xs := lots) rfl (r_overT (r_var rfl)) ⟨x6, rfl⟩ ?_) (fun σ' ⟨x6, e⟩ => by subst e; exact ⟨x6, rfl⟩)
    rintro other h2 σ ⟨x6, rfl⟩
    have l2 := hb other h2
    refine ⟨[.no, .frz (.tuple (lots.map rowD)), .frz (.dict kvs), .no, .frz (rowD one), .frz (rowD other), x6, .no], rfl, ?_⟩
    refine found_body (Q := fun σ => ∃ x6 : Slot, σ = [.no, .frz (.tuple (lots.map rowD)), .frz (.dict kvs), .no, .frz (rowD one), .frz (rowD other), x6, .no]) (Q2 := fun σ => ∃ x6 : Slot, σ = [.no, .frz (.tuple (lots.map rowD)), .frz (.dict kvs), .no, .frz (rowD one), .no, x6, .no]) (keep := [1, 2, 4, 6, 7]) (for_pick (call := callN Γ (k + 1)) (fuel := fuelW) (t := .name 6) (it := .over (.comp (.var 6) (.name 6) (.over (.var 4)) (.cmp .notin (.var 6) (.var 5)) [6])) (keep := [1, 2, 4, 5, 6, 7]) (body := aB) (σ := [.no, .frz (.tuple (lots.map rowD)), .frz (.dict kvs), .no, .frz (rowD one), .frz (rowD other), x6, .no]) (s := s) PyData.int (exG lots one other) (fun σ => ∃ x6 : Slot, σ = [.no, .frz (.tuple (lots.map rowD)), .frz (.dict kvs), .no, .frz (rowD one), .frz (rowD other), x6, .no]) (xs := one.filter fun a => !decide (a ∈ other)) rfl (r_over (r_comp PyData.int (fun a => !decide (a ∈ other)) PyData.int one (r_overT (r_var rfl)) (by unfold lim; omega) fun a ha s => ⟨[.no, .frz (.tuple (lots.map rowD)), .frz (.dict kvs), .no, .frz (rowD one), .frz (rowD other), .frz (.int a), .no], rfl, r_cmp (r_var rfl) (r_var rfl) (notin_row _ _), fun _ => r_var rfl⟩)) ⟨x6, rfl⟩ ?_) (fun σ' ⟨x6, e⟩ => by subst e; exact ⟨x6, rfl⟩)
    rintro a ha σ ⟨x6, rfl⟩
    refine ⟨[.no, .frz (.tuple (lots.map rowD)), .frz (.dict kvs), .no, .frz (rowD one), .frz (rowD other), .frz (.int a), .no], rfl, ?_⟩
    have cc : ev (callN Γ (k + 1)) true (.comp (.var 7) (.name 7) (.over (.var 5)) (.and_ (.cmp .notin (.var 7) (.var 4)) (.cmp .isin (.call "put_for" .none (.cons (.var 4) (.cons (.var 6) (.cons (.var 7) .nil)))) (.var 2))) [7]) [.no, .frz (.tuple (lots.map rowD)), .frz (.dict kvs), .no, .frz (rowD one), .frz (rowD other), .frz (.int a), .no] s = some (.list ((goesL lots one other a).map .int), s) :=
      r_comp PyData.int (fun b => !decide (b ∈ one) && decide (putR one a b ∈ lots)) PyData.int other (r_overT (r_var rfl)) (by unfold lim; omega) fun b hb s => ⟨[.no, .frz (.tuple (lots.map rowD)), .frz (.dict kvs), .no, .frz (rowD one), .frz (rowD other), .frz (.int a), .frz (.int b)], rfl, r_and (r_cmp (r_var rfl) (r_var rfl) (notin_row _ _)) fun _ => r_cmp (r_callv (r_es (r_var rfl) (r_es (r_var rfl) (r_es1 (r_var rfl)))) (put_for_ok k one a b s (by omega)) rfl rfl) (r_var rfl) (d2 _), fun _ => r_var rfl⟩
    unfold exG
    by_cases q : goesL lots one other a = []
    · rw [if_pos q]
      exact exs_if_ret (r_cmp cc r_lst0 (cop_eq_ints0 _)) (decide_eq_true q) (exs_retv (r_tup (r_es (r_str _) (r_es (r_var rfl) (r_es (r_var rfl) (r_es1 (r_var rfl))))) (show 4 ≤ lim by decide)))
    · rw [if_neg q]
      exact ⟨_, exs_step (q_no (r_cmp cc r_lst0 (cop_eq_ints0 _)) (decide_eq_false q)) exs_nil, .frz (.int a), rfl⟩)
  exact gv (call_def rfl rfl rfl rfl (exs_assign (r_idx (r_var rfl) (r_int 1) rfl) rfl (exs_assign (r_bf1t c1 d1 rfl) rfl (exs_pick p1 fun σ' e => by subst e; exact exs_pick p2 fun σ' ⟨x6, e⟩ => by subst e; exact exs_retv (r_tup (r_es1 (r_str _)) (show 1 ≤ lim by decide))))))
omit h0 hl hb in
theorem lawgoes_ok (hl : lots.length ≤ 1000) (one other : List Int) (a : Int) (h1 : one.length ≤ 1000) (h2 : other.length ≤ 1000) (k : Nat) (s : Src) : Gives "_law_goes" false (callN Γ (k + 1)) [prD m lots, rowD one, rowD other, .int a] s (.list ((goesL lots one other a).map .int)) s := by
  have fl := List.length_filter_le (fun x => !decide (x = a)) one
  refine gv (call_def rfl rfl rfl rfl (exs_step (q_assign (r_comp PyData.int (fun x => !decide (x = a)) PyData.int one (r_overT (r_var rfl)) (by unfold lim; omega) fun x hx s => ⟨[.frz (prD m lots), .frz (rowD one), .frz (rowD other), .frz (.int a), .no, .frz (.int x), .no], rfl, r_cmp (r_var rfl) (r_var rfl) (cop_ne_int x a), fun _ => r_var rfl⟩) rfl) (exs_retv ?_)))
  exact r_comp PyData.int (fun b => !decide (b ∈ one) && decide (putR one a b ∈ lots)) PyData.int other (r_overT (r_var rfl)) (by unfold lim; omega) fun b hb s => ⟨[.frz (prD m lots), .frz (rowD one), .frz (rowD other), .frz (.int a), .frz (.list ((one.filter fun x => !decide (x = a)).map .int)), .no, .frz (.int b)], rfl, r_and (r_cmp (r_var rfl) (r_var rfl) (notin_row _ _)) fun _ => r_cmp (r_bf1t (r_bf1t (r_bin (r_var rfl) (r_lst (r_es1 (r_var rfl)) (show 1 ≤ lim by decide)) (bop_add_ints _ [b] (by rw [List.length_singleton]; unfold lim; omega))) (bf_sorted_ints _ (by rw [List.length_append, List.length_singleton]; unfold lim; omega)) rfl) (bf_tuple_ints _) rfl) (r_idx (r_var rfl) (r_int 1) rfl) (in_lotsT _ _), fun _ => r_var rfl⟩
def lsB : Ss := (.cons (.if_ (.cmp .ne (.bf .len (.cons (.var 3) .nil)) (.bf .len (.cons (.idx (.var 2) (.int 0)) .nil))) (.cons (.ret (.tup (.cons (.str (sN "sizes")) (.cons (.idx (.var 2) (.int 0)) (.cons (.var 3) .nil))))) .nil) .nil) .nil)
def laB : Ss := (.cons (.if_ (.cmp .eq (.call "_law_goes" .none (.cons (.var 0) (.cons (.var 4) (.cons (.var 3) (.cons (.var 5) .nil))))) (.lst .nil)) (.cons (.ret (.tup (.cons (.str (sN "exchange")) (.cons (.var 4) (.cons (.var 3) (.cons (.var 5) .nil)))))) .nil) .nil) .nil)
def loB : Ss := (.cons (.for_ (.name 5) (.over (.comp (.var 6) (.name 6) (.over (.var 4)) (.cmp .notin (.var 6) (.var 3)) [6])) [0, 2, 3, 4, 6] laB) .nil)
def leB : Ss := (.cons (.for_ (.name 3) (.over (.var 2)) [0, 2, 4, 6] loB) .nil)
theorem lawpaper_gen (k : Nat) (s : Src) : Gives "_law_paper" false (callN Γ (k + 2)) [prD m lots] s (paperS lots) s := by
  have i0 := head0 h0
  have p1 := for_pick (call := callN Γ (k + 1)) (fuel := fuelW) (t := .name 3) (it := .over (.var 2)) (keep := [0, 2, 6]) (body := lsB) (σ := [.frz (prD m lots), .frz (.int m), .frz (.tuple (lots.map rowD)), .no, .no, .no, .no]) (s := s) rowD (sizeG (lots.headD [])) (fun σ => σ = [.frz (prD m lots), .no, .frz (.tuple (lots.map rowD)), .no, .no, .no, .no]) (xs := lots) rfl (r_overT (r_var rfl)) rfl (by
    rintro w hw σ rfl
    refine ⟨[.frz (prD m lots), .no, .frz (.tuple (lots.map rowD)), .frz (rowD w), .no, .no, .no], rfl, ?_⟩
    have c2 : ev (callN Γ (k + 1)) false (.cmp .ne (.bf .len (.cons (.var 3) .nil)) (.bf .len (.cons (.idx (.var 2) (.int 0)) .nil))) [.frz (prD m lots), .no, .frz (.tuple (lots.map rowD)), .frz (rowD w), .no, .no, .no] s = some (.bool (!decide ((w.length : Int) = (lots.headD []).length)), s) := r_cmp (r_bf1t (r_var rfl) (bf_len_row w) rfl) (r_bf1t (r_idx (r_var rfl) (r_int 0) i0) (bf_len_row _) rfl) (cop_ne_int _ _)
    unfold sizeG
    by_cases q : w.length = (lots.headD []).length
    · rw [if_pos q]
      exact ⟨_, exs_step (q_no c2 (by rw [decide_eq_true (by omega)]; rfl)) exs_nil, rfl⟩
    · rw [if_neg q]
      exact exs_if_ret c2 (by rw [decide_eq_false (by omega)]; rfl) (exs_retv (r_tup (r_es (r_str _) (r_es (r_idx (r_var rfl) (r_int 0) i0) (r_es1 (r_var rfl)))) (show 3 ≤ lim by decide))))
  have p2 := for_pick (call := callN Γ (k + 1)) (fuel := fuelW) (t := .name 4) (it := .over (.var 2)) (keep := [0, 2, 6]) (body := leB) (σ := [.frz (prD m lots), .no, .frz (.tuple (lots.map rowD)), .no, .no, .no, .no]) (s := s) rowD (exT lots) (fun σ => σ = [.frz (prD m lots), .no, .frz (.tuple (lots.map rowD)), .no, .no, .no, .no]) (xs := lots) rfl (r_overT (r_var rfl)) rfl (by
    rintro one h1 σ rfl
    have l1 := hb one h1
    refine ⟨[.frz (prD m lots), .no, .frz (.tuple (lots.map rowD)), .no, .frz (rowD one), .no, .no], rfl, ?_⟩
    refine found_body (Q := fun σ => σ = [.frz (prD m lots), .no, .frz (.tuple (lots.map rowD)), .no, .frz (rowD one), .no, .no]) (Q2 := fun σ => σ = [.frz (prD m lots), .no, .frz (.tuple (lots.map rowD)), .no, .no, .no, .no]) (keep := [0, 2, 6]) (for_pick (call := callN Γ (k + 1)) (fuel := fuelW) (t := .name 3) (it := .over (.var 2)) (keep := [0, 2, 4, 6]) (body := loB) (σ := [.frz (prD m lots), .no, .frz (.tuple (lots.map rowD)), .no, .frz (rowD one), .no, .no]) (s := s) rowD (exO lots one) (fun σ => σ = [.frz (prD m lots), .no, .frz (.tuple (lots.map rowD)), .no, .frz (rowD one), .no, .no]) (xs := lots) rfl (r_overT (r_var rfl)) rfl ?_) (fun σ' e => by subst e; rfl)
    rintro other h2 σ rfl
    have l2 := hb other h2
    refine ⟨[.frz (prD m lots), .no, .frz (.tuple (lots.map rowD)), .frz (rowD other), .frz (rowD one), .no, .no], rfl, ?_⟩
    refine found_body (Q := fun σ => σ = [.frz (prD m lots), .no, .frz (.tuple (lots.map rowD)), .frz (rowD other), .frz (rowD one), .no, .no]) (Q2 := fun σ => σ = [.frz (prD m lots), .no, .frz (.tuple (lots.map rowD)), .no, .frz (rowD one), .no, .no]) (keep := [0, 2, 4, 6]) (for_pick (call := callN Γ (k + 1)) (fuel := fuelW) (t := .name 5) (it := .over (.comp (.var 6) (.name 6) (.over (.var 4)) (.cmp .notin (.var 6) (.var 3)) [6])) (keep := [0, 2, 3, 4, 6]) (body := laB) (σ := [.frz (prD m lots), .no, .frz (.tuple (lots.map rowD)), .frz (rowD other), .frz (rowD one), .no, .no]) (s := s) PyData.int (exG lots one other) (fun σ => σ = [.frz (prD m lots), .no, .frz (.tuple (lots.map rowD)), .frz (rowD other), .frz (rowD one), .no, .no]) (xs := one.filter fun a => !decide (a ∈ other)) rfl (r_over (r_comp PyData.int (fun a => !decide (a ∈ other)) PyData.int one (r_overT (r_var rfl)) (by unfold lim; omega) fun a ha s => ⟨[.frz (prD m lots), .no, .frz (.tuple (lots.map rowD)), .frz (rowD other), .frz (rowD one), .no, .frz (.int a)], rfl, r_cmp (r_var rfl) (r_var rfl) (notin_row _ _), fun _ => r_var rfl⟩)) rfl ?_) (fun σ' e => by subst e; rfl)
    rintro a ha σ rfl
    refine ⟨[.frz (prD m lots), .no, .frz (.tuple (lots.map rowD)), .frz (rowD other), .frz (rowD one), .frz (.int a), .no], rfl, ?_⟩
    have cc : ev (callN Γ (k + 1)) true (.call "_law_goes" .none (.cons (.var 0) (.cons (.var 4) (.cons (.var 3) (.cons (.var 5) .nil))))) [.frz (prD m lots), .no, .frz (.tuple (lots.map rowD)), .frz (rowD other), .frz (rowD one), .frz (.int a), .no] s = some (.list ((goesL lots one other a).map .int), s) := r_callv (r_es (r_var rfl) (r_es (r_var rfl) (r_es (r_var rfl) (r_es1 (r_var rfl))))) (lawgoes_ok hl one other a l1 l2 k s) rfl rfl
    unfold exG
    by_cases q : goesL lots one other a = []
    · rw [if_pos q]
      exact exs_if_ret (r_cmp cc r_lst0 (cop_eq_ints0 _)) (decide_eq_true q) (exs_retv (r_tup (r_es (r_str _) (r_es (r_var rfl) (r_es (r_var rfl) (r_es1 (r_var rfl))))) (show 4 ≤ lim by decide)))
    · rw [if_neg q]
      exact ⟨_, exs_step (q_no (r_cmp cc r_lst0 (cop_eq_ints0 _)) (decide_eq_false q)) exs_nil, rfl⟩)
  exact gv (call_def rfl rfl rfl rfl (exs_unpack (r_var rfl) rfl (exs_pick p1 fun σ' e => by subst e; exact exs_pick p2 fun σ' e => by subst e; exact exs_retv (r_tup (r_es1 (r_str _)) (show 1 ≤ lim by decide)))))
end
/-- what a paper is -/
theorem paper_kinds (lots : List (List Int)) : (∃ z w, paperS lots = .tuple [.str (sN "sizes"), rowD z, rowD w] ∧ (z = lots.headD []) ∧ w ∈ lots) ∨ (∃ one other a, paperS lots = .tuple [.str (sN "exchange"), rowD one, rowD other, .int a] ∧ one ∈ lots ∧ other ∈ lots ∧ a ∈ one) ∨ paperS lots = sysD := by
  unfold paperS
  cases e : lots.findSome? (sizeG (lots.headD [])) with
  | some d =>
    obtain ⟨w, h1, h2⟩ := List.exists_of_findSome?_eq_some e
    unfold sizeG at h2
    split at h2
    · cases h2
    · cases h2
      exact .inl ⟨_, w, rfl, rfl, h1⟩
  | none =>
    right
    cases e2 : lots.findSome? (exT lots) with
    | some d =>
      obtain ⟨one, h1, h2⟩ := List.exists_of_findSome?_eq_some e2
      obtain ⟨other, h3, h4⟩ := List.exists_of_findSome?_eq_some h2
      obtain ⟨a, h5, h6⟩ := List.exists_of_findSome?_eq_some h4
      unfold exG at h6
      split at h6
      · cases h6
        exact .inl ⟨one, other, a, rfl, h1, h3, (List.mem_filter.mp h5).1⟩
      · cases h6
    | none => exact .inr rfl
end Mp

/-! R10: ascending checks of any tuples; all of some; the other way round. -/
namespace Mp
open PySem
theorem asc_iff : ∀ w : List Int, (∀ j, j + 1 < w.length → w.getD j 0 < w.getD (j + 1) 0) ↔ w.Pairwise (· < ·)
  | [] => ⟨fun _ => List.Pairwise.nil, fun _ j h => absurd h (by simp)⟩
  | [a] => ⟨fun _ => List.pairwise_singleton _ _, fun _ j h => absurd h (by simp)⟩
  | a :: b :: r => by
    have ih := asc_iff (b :: r)
    constructor
    · intro h
      have h1 : (b :: r).Pairwise (· < ·) := ih.mp fun j hj => by
        have := h (j + 1) (by rw [List.length_cons]; omega)
        exact this
      have ab : a < b := h 0 (by simp)
      refine List.pairwise_cons.mpr ⟨fun x hx => ?_, h1⟩
      rcases List.mem_cons.mp hx with rfl | hx
      · exact ab
      · exact Int.lt_trans ab ((List.pairwise_cons.mp h1).1 x hx)
    · intro h j hj
      cases j with
      | zero => exact (List.pairwise_cons.mp h).1 b (.head _)
      | succ j => exact ih.mpr (List.pairwise_cons.mp h).2 j (by simpa using hj)
theorem r_ascG {call : Call} {σ : Ev} {s : Src} {x k : Nat} {α : Type} (φ : α → D) (le : α → α → Bool) (d0 : α) (xs : List α) (hl : xs.length ≤ 100000) (hle : ∀ a b, cop .le (φ a) (φ b) = some (le a b)) (hx : ev call true (.var x) σ s = some (.tuple (xs.map φ), s))
    (h : ∀ (i : Int) s, ∃ σ', bindT (.name k) (.int i) (wipeE σ [k]) = some σ' ∧ ev call true (.var x) σ' s = some (.tuple (xs.map φ), s) ∧ ∀ b, ev call b (.var k) σ' s = some (.int i, s)) (b : Bool) :
    ∃ t, ev call b (.cmp .eq (.comp (.var k) (.name k) (.range2 (.int 1) (.bf .len (.cons (.var x) .nil))) (.cmp .le (.idx (.var x) (.var k)) (.idx (.var x) (.bin .sub (.var k) (.int 1)))) [k]) (.lst .nil)) σ s = some (.bool t, s) ∧ (t = true ↔ ∀ j, j + 1 < xs.length → le (xs.getD (j + 1) d0) (xs.getD j d0) = false) := by
  have len : bf .len [.tuple (xs.map φ)] = some (.int ((xs.length : Nat) : Int)) := by
    show some (PyData.int ((xs.map φ).length : Nat)) = _
    rw [List.length_map]
  have c1 := r_comp (call := call) (b := false) (elt := .var k) (c := .cmp .le (.idx (.var x) (.var k)) (.idx (.var x) (.bin .sub (.var k) (.int 1)))) (t := .name k) (own := [k]) (σ := σ) (s := s) (s1 := s) (it := .range2 (.int 1) (.bf .len (.cons (.var x) .nil))) (fun j : Nat => PyData.int (1 + (j : Int))) (fun j => le (xs.getD (j + 1) d0) (xs.getD j d0)) (fun j : Nat => PyData.int (1 + (j : Int))) (List.range ((xs.length : Int) - 1).toNat) (by
      refine (r_range2 (r_int 1) (r_bf1t hx len rfl) rfl (by unfold rangeOk; exact decide_eq_true (by omega))).trans ?_
      unfold rangeD
      rfl) (by rw [List.length_range]; unfold lim; omega) fun j hj s => by
        rw [List.mem_range] at hj
        obtain ⟨σ', e1, e2, e3⟩ := h (1 + (j : Int)) s
        have j1 : j + 1 < xs.length := by omega
        have j0 : j < xs.length := by omega
        have d1 : xs.getD (j + 1) d0 = xs[j + 1] := by rw [List.getD_eq_getElem?_getD, List.getElem?_eq_getElem j1]; rfl
        have d2 : xs.getD j d0 = xs[j] := by rw [List.getD_eq_getElem?_getD, List.getElem?_eq_getElem j0]; rfl
        have i1 : itemAt (.tuple (xs.map φ)) (.int (1 + (j : Int))) = some (φ (xs.getD (j + 1) d0)) := by
          have := item_tuple (xs := xs.map φ) (j := j + 1) (d := φ xs[j + 1]) (by rw [List.getElem?_map, List.getElem?_eq_getElem j1]; rfl)
          rw [show ((j + 1 : Nat) : Int) = 1 + (j : Int) by omega] at this
          rw [d1]
          exact this
        have i0 : itemAt (.tuple (xs.map φ)) (.int (1 + (j : Int) - 1)) = some (φ (xs.getD j d0)) := by
          have := item_tuple (xs := xs.map φ) (j := j) (d := φ xs[j]) (by rw [List.getElem?_map, List.getElem?_eq_getElem j0]; rfl)
          rw [show (j : Int) = 1 + (j : Int) - 1 by omega] at this
          rw [d2]
          exact this
        exact ⟨σ', e1, r_cmp (r_idx e2 (e3 _) i1) (r_idx e2 (r_bin (e3 _) (r_int 1) rfl) i0) (hle _ _), fun _ => e3 _⟩
  have e1 : ((List.range ((xs.length : Int) - 1).toNat).filter fun j => le (xs.getD (j + 1) d0) (xs.getD j d0)).map (fun j : Nat => PyData.int (1 + (j : Int))) = (((List.range ((xs.length : Int) - 1).toNat).filter fun j => le (xs.getD (j + 1) d0) (xs.getD j d0)).map fun j : Nat => 1 + (j : Int)).map .int := by
    rw [List.map_map]
    rfl
  rw [e1] at c1
  refine ⟨_, r_cmp c1 r_lst0 (cop_eq_ints0 _), ?_⟩
  rw [decide_eq_true_iff, List.map_eq_nil_iff, List.filter_eq_nil_iff]
  constructor
  · intro q j hj
    have := q j (List.mem_range.mpr (by omega))
    simpa using this
  · intro q j hj
    rw [List.mem_range] at hj
    rw [q j (by omega)]
    simp
theorem asBools_map (bs : List Bool) : asBools (bs.map .bool) = some bs := by
  induction bs with
  | nil => rfl
  | cons x w ih =>
    show (asBools (w.map .bool)).map (x :: ·) = _
    rw [ih]
    rfl
theorem bf_all (bs : List Bool) : bf .all [.list (bs.map .bool)] = some (.bool (bs.all id)) := by
  show (asBools _).map _ = _
  rw [asBools_map]
  rfl
theorem r_rev {call : Call} {b : Bool} {σ : Ev} {s s1 : Src} {x : E} {d r : D} (h : ev call true x σ s = some (d, s1)) (hr : revD d = some r) : ev call b (.rev x) σ s = some (r, s1) := by
  show bnd (ev call true x σ) _ s = _
  rw [bnd_eq h, lft_eq hr]
  rfl
end Mp

/-! J2: k15: lots among any values; forms. -/
namespace Mp
open PySem
theorem lexLe_false : ∀ {a b : List Int}, lexLe b a = false → a < b
  | a, [], h => by
    have : lexLe [] a = true := by cases a <;> rfl
    rw [this] at h
    cases h
  | [], b :: bs, _ => List.nil_lt_cons _ _
  | a :: as, b :: bs, h => by
    unfold lexLe at h
    rw [List.cons_lt_cons_iff]
    by_cases q : b = a
    · rw [if_pos q] at h
      exact .inr ⟨q.symm, lexLe_false h⟩
    · rw [if_neg q] at h
      have := of_decide_eq_false h
      exact .inl (by omega)
theorem rows_asc : ∀ lots : List (List Int), (∀ j, j + 1 < lots.length → lexLe (lots.getD (j + 1) []) (lots.getD j []) = false) → lots.Pairwise (· < ·)
  | [], _ => List.Pairwise.nil
  | [a], _ => List.pairwise_singleton _ _
  | a :: b :: r, h => by
    have h1 : (b :: r).Pairwise (· < ·) := rows_asc (b :: r) fun j hj => by
      have := h (j + 1) (by rw [List.length_cons]; omega)
      exact this
    have ab : a < b := lexLe_false (h 0 (by simp))
    refine List.pairwise_cons.mpr ⟨fun x hx => ?_, h1⟩
    rcases List.mem_cons.mp hx with rfl | hx
    · exact ab
    · exact List.lt_trans ab ((List.pairwise_cons.mp h1).1 x hx)
theorem cop_le_rowX (a b : List Int) : cop .le (rowD a) (rowD b) = some (lexLe a b) := by
  show (match asInts (a.map .int), asInts (b.map .int) with | some ns, some ms => some (lexLe ns ms) | _, _ => none) = _
  rw [asInts_row, asInts_row]
theorem isnum_gen (k : Nat) (d : D) (n : Int) (s : Src) : Gives "is_number_under" false (callN Γ (k + 1)) [d, .int n] s (.bool (numU d n)) s :=
  gv (call_def rfl rfl rfl rfl (exs_retv (numU_eval d n 0 (.var 1) (fun _ => r_var rfl) (r_var rfl) _)))
structure ItemOk (M : Nat) (d : D) (b : Bool) : Prop where
  j : ∀ k s, Gives "is_things_lot" false (callN Γ (k + 2)) [.int M, d] s (.bool b) s
  f : ∀ k s, Gives "_law_is_lot" false (callN Γ (k + 1)) [.int M, d] s (.bool b) s
  w : b = true → ∃ w, d = rowD w ∧ LotIn M w
theorem item_nt {M : Nat} {d : D} (h : isTy .tuple d = false) : ItemOk M d false :=
  ⟨fun k s => gv (call_def rfl rfl rfl rfl (exs_if_ret (t := true) (r_or_t ((r_not (r_isinst (d := d) (r_var rfl))).trans (by rw [h]; rfl))) rfl (exs_retv (r_bool false)))),
    fun k s => gv (call_def rfl rfl rfl rfl (exs_if_ret (t := true) (r_or_t ((r_not (r_isinst (d := d) (r_var rfl))).trans (by rw [h]; rfl))) rfl (exs_retv (r_bool false)))),
    fun h => by cases h⟩
theorem item_tt (M : Nat) : ItemOk M (.tuple [rowD [0]]) false := by
  refine ⟨fun k s => ?_, fun k s => ?_, fun h => by cases h⟩
  · have a1 : ev (callN Γ (k + 1)) false (.not_ (.bf .all (.cons (.comp (.call "is_number_under" .none (.cons (.var 2) (.cons (.var 0) .nil))) (.name 2) (.over (.var 1)) (.bool true) [2]) .nil))) [.frz (.int M), .frz (.tuple [rowD [0]]), .no, .no] s = some (.bool true, s) :=
      r_not (r_bf1t (r_comp1 rowD (fun w => .bool (numU (rowD w) M)) [[0]] (r_overT (r_var rfl)) (show 1 ≤ lim by decide) fun x hx s => ⟨[.frz (.int M), .frz (.tuple [rowD [0]]), .frz (rowD x), .no], rfl, r_callv (r_es (r_var rfl) (r_es1 (r_var rfl))) (isnum_gen k (rowD x) M s) rfl rfl⟩) (rfl : bf .all [.list [.bool false]] = some (.bool false)) rfl)
    exact gv (call_def rfl rfl rfl rfl (exs_if_ret (r_or_ff (r_not (r_isinst (d := .tuple [rowD [0]]) (r_var rfl))) rfl a1) rfl (exs_retv (r_bool false))))
  · have a1 : ev (callN Γ k) true (.comp (.var 2) (.name 2) (.over (.var 1)) (.or_ (.not_ (.isinst .int (.var 2))) (.isinst .bool (.var 2))) [2]) [.frz (.int M), .frz (.tuple [rowD [0]]), .no] s = some (waysD [[0]], s) :=
      r_comp rowD (fun _ => true) rowD [[0]] (r_overT (r_var rfl)) (show 1 ≤ lim by decide) fun x hx s => ⟨[.frz (.int M), .frz (.tuple [rowD [0]]), .frz (rowD x)], rfl, r_or_t (r_not (r_isinst (d := rowD x) (r_var rfl))), fun _ => r_var rfl⟩
    exact gv (call_def rfl rfl rfl rfl (exs_if_ret (r_or_ff (r_not (r_isinst (d := .tuple [rowD [0]]) (r_var rfl))) rfl (r_cmp a1 r_lst0 (cop_ne_ways0 _))) rfl (exs_retv (r_bool false))))
theorem rg_big {M : Nat} (hM : M ≤ 100) {call : Call} {b : Bool} {σ : Ev} {s s1 : Src} {x : E} (h : ev call false x σ s = some (.int (M : Int), s1)) : evI call b (.range1 x) σ s = some ((upto M).map .int, s1) := by
  rw [← range_upto]
  exact r_range1 h (by unfold rangeOk; exact decide_eq_true (by omega))
theorem item_rowX (M : Nat) (hM : M ≤ 100) (w : List Int) (hl : w.length ≤ 100) : ∃ b, ItemOk M (rowD w) b := by
  -- the law's look
  have lf : ∀ k s, Gives "_law_is_lot" false (callN Γ (k + 1)) [.int M, rowD w] s (.bool (decide (w = (upto M).filter fun x => decide (x ∈ w)))) s := fun k s => by
    have a1 : ev (callN Γ k) true (.comp (.var 2) (.name 2) (.over (.var 1)) (.or_ (.not_ (.isinst .int (.var 2))) (.isinst .bool (.var 2))) [2]) [.frz (.int M), .frz (rowD w), .no] s = some (.list ((w.filter fun _ => false).map .int), s) :=
      r_comp PyData.int (fun _ => false) PyData.int w (r_overT (r_var rfl)) (by unfold lim; omega) fun x hx s => ⟨[.frz (.int M), .frz (rowD w), .frz (.int x)], rfl, r_or_ff (r_not (r_isinst (d := .int x) (r_var rfl))) rfl (r_isinst (d := .int x) (r_var rfl)), fun _ => r_var rfl⟩
    have f0 : w.filter (fun _ => false) = [] := by simp
    rw [f0] at a1
    exact gv (call_def rfl rfl rfl rfl (exs_no (r_or_ff (r_not (r_isinst (d := rowD w) (r_var rfl))) rfl (r_cmp a1 r_lst0 (cop_ne_ints0 []))) (by simp) (exs_retv (r_cmp (r_bf1t (r_var rfl) (rfl : bf .list [rowD w] = some (.list (w.map .int))) rfl) (r_comp PyData.int (fun x => decide (x ∈ w)) PyData.int (upto M) (rg_big hM (r_var rfl)) (by rw [upto_len]; unfold lim; omega) fun x hx s => ⟨[.frz (.int M), .frz (rowD w), .frz (.int x)], rfl, r_cmp (r_var rfl) (r_var rfl) (in_row _ _), fun _ => r_var rfl⟩) (cop_eq_ints _ _)))))
  have lot : w = (upto M).filter (fun x => decide (x ∈ w)) ↔ LotIn M w := by
    constructor
    · intro e
      rw [e]
      exact ⟨(upto_asc M).filter _, fun x hx => mem_upto.mp (List.mem_filter.mp hx).1⟩
    · intro h
      exact asc_unique h.1 ((upto_asc M).filter _) fun x => by
        rw [List.mem_filter, mem_upto, decide_eq_true_iff]
        exact ⟨fun hx => ⟨h.2 x hx, hx⟩, fun q => q.2⟩
  refine ⟨decide (w = (upto M).filter fun x => decide (x ∈ w)), fun k s => ?_, lf, fun h => ⟨w, rfl, lot.mp (of_decide_eq_true h)⟩⟩
  have a1 : ev (callN Γ (k + 1)) false (.not_ (.bf .all (.cons (.comp (.call "is_number_under" .none (.cons (.var 2) (.cons (.var 0) .nil))) (.name 2) (.over (.var 1)) (.bool true) [2]) .nil))) [.frz (.int M), .frz (rowD w), .no, .no] s = some (.bool (!((w.map fun x => numU (.int x) M).all id)), s) := by
    have c := r_comp1 (call := callN Γ (k + 1)) (b := true) (elt := .call "is_number_under" .none (.cons (.var 2) (.cons (.var 0) .nil))) (t := .name 2) (it := .over (.var 1)) (own := [2]) (σ := [.frz (.int M), .frz (rowD w), .no, .no]) (s := s) (s1 := s) PyData.int (fun x => .bool (numU (.int x) M)) w (r_overT (r_var rfl)) (by unfold lim; omega) fun x hx s => ⟨[.frz (.int M), .frz (rowD w), .frz (.int x), .no], rfl, r_callv (r_es (r_var rfl) (r_es1 (r_var rfl))) (isnum_gen k (.int x) M s) rfl rfl⟩
    have e : w.map (fun x => PyData.bool (numU (.int x) M)) = (w.map fun x => numU (.int x) M).map .bool := by
      rw [List.map_map]
      rfl
    rw [e] at c
    exact r_not (r_bf1t c (bf_all _) rfl)
  by_cases all : (w.map fun x => numU (.int x) M).all id = true
  · rw [all] at a1
    have inR : ∀ x ∈ w, 0 ≤ x ∧ x < (M : Int) := fun x hx => by
      have := List.all_eq_true.mp all _ (List.mem_map.mpr ⟨x, hx, rfl⟩)
      have h : (decide (0 ≤ x) && decide (x < (M : Int))) = true := this
      rw [Bool.and_eq_true, decide_eq_true_iff, decide_eq_true_iff] at h
      exact h
    obtain ⟨t, e, ht⟩ := r_ascG (call := callN Γ (k + 1)) (σ := [.frz (.int M), .frz (rowD w), .no, .no]) (s := s) (x := 1) (k := 3) PyData.int (fun a b => decide (a ≤ b)) 0 w (by omega) cop_le_int (r_var rfl) (fun i s => ⟨_, rfl, r_var rfl, fun _ => r_var rfl⟩) (isVar (.cmp .eq (.comp (.var 3) (.name 3) (.range2 (.int 1) (.bf .len (.cons (.var 1) .nil))) (.cmp .le (.idx (.var 1) (.var 3)) (.idx (.var 1) (.bin .sub (.var 3) (.int 1)))) [3]) (.lst .nil)))
    have te : t = decide (w = (upto M).filter fun x => decide (x ∈ w)) := by
      rw [Bool.eq_iff_iff, ht, decide_eq_true_iff, lot]
      constructor
      · intro h
        refine ⟨(asc_iff w).mp fun j hj => ?_, inR⟩
        have := of_decide_eq_false (h j hj)
        omega
      · intro h j hj
        have := (asc_iff w).mpr h.1 j hj
        exact decide_eq_false (by omega)
    rw [te] at e
    exact gv (call_def rfl rfl rfl rfl (exs_no (r_or_ff (r_not (r_isinst (d := rowD w) (r_var rfl))) rfl a1) rfl (exs_retv e)))
  · have all : (w.map fun x => numU (.int x) M).all id = false := by simpa using all
    rw [all] at a1
    have no : decide (w = (upto M).filter fun x => decide (x ∈ w)) = false := decide_eq_false fun e => by
      have h := lot.mp e
      have : (w.map fun x => numU (.int x) M).all id = true := List.all_eq_true.mpr fun b hb => by
        obtain ⟨x, hx, rfl⟩ := List.mem_map.mp hb
        have hr := h.2 x hx
        show (decide (0 ≤ x) && decide (x < (M : Int))) = true
        rw [decide_eq_true hr.1, decide_eq_true hr.2]
        rfl
      rw [all] at this
      cases this
    rw [no]
    exact gv (call_def rfl rfl rfl rfl (exs_if_ret (r_or_ff (r_not (r_isinst (d := rowD w) (r_var rfl))) rfl a1) rfl (exs_retv (r_bool false))))
/-! ### forms -/
structure SameV (v : D) : Prop where
  sh : Sh 60 1000000 v
  j : ∀ k s, ∃ b, Gives "is_system" false (callN Γ (k + 5)) [v] s (.bool b) s ∧ ((b = false ∧ Gives "_law_is_form" false (callN Γ (k + 5)) [v] s (.bool false) s) ∨ (Gives "_law_is_form" false (callN Γ (k + 5)) [v] s (.bool true) s ∧ ∃ p, Gives "_law_paper" false (callN Γ (k + 5)) [v] s p s ∧ cop .eq p sysD = some b))
/-- no form -/
theorem no_form {v : D} (sh : Sh 60 1000000 v) (h1 : ∀ k s, Gives "is_lots_form" false (callN Γ (k + 4)) [v] s (.bool false) s) (h2 : ∀ k s, Gives "_law_is_form" false (callN Γ (k + 5)) [v] s (.bool false) s) : SameV v :=
  ⟨sh, fun k s => ⟨false, gv (call_def rfl rfl rfl rfl (exs_retv (r_and_f (r_callv (r_es1 (r_var rfl)) (h1 k s) rfl rfl)))), .inl ⟨rfl, h2 k s⟩⟩⟩
def cF : E := .or_ (.not_ (.isinst .tuple (.var 0))) (.or_ (.cmp .ne (.bf .len (.cons (.var 0) .nil)) (.int 2)) (.or_ (.not_ (.isinst .tuple (.idx (.var 0) (.int 1)))) (.cmp .eq (.idx (.var 0) (.int 1)) (.tup .nil))))
theorem form_no {v : D} (sh : Sh 60 1000000 v) (h : ∀ call s, ev call false cF [.frz v, .no, .no, .no, .no] s = some (.bool true, s)) : SameV v :=
  no_form sh (fun k s => gv (call_def rfl rfl rfl rfl (exs_if_ret (h _ s) rfl (exs_retv (r_bool false))))) (fun k s => gv (call_def rfl rfl rfl rfl (exs_if_ret (h _ s) rfl (exs_retv (r_bool false)))))
theorem same_nt {v : D} (sh : Sh 60 1000000 v) (h : isTy .tuple v = false) : SameV v :=
  form_no sh fun call s => r_or_t ((r_not (r_isinst (d := v) (r_var rfl))).trans (by rw [h]; rfl))
theorem same_ln {ds : List D} (sh : Sh 60 1000000 (.tuple ds)) (h : ds.length ≠ 2) : SameV (.tuple ds) :=
  form_no sh fun call s => r_or_ff (r_not (r_isinst (d := .tuple ds) (r_var rfl))) rfl (r_or_t ((r_cmp (r_bf1t (r_var rfl) (rfl : bf .len [.tuple ds] = some (.int (ds.length : Nat))) rfl) (r_int 2) (cop_ne_int _ _)).trans (by rw [decide_eq_false (by omega)]; rfl)))
theorem cF_two {x y : D} {c : Bool} (call : Call) (s : Src) (h : ev call false (.or_ (.not_ (.isinst .tuple (.idx (.var 0) (.int 1)))) (.cmp .eq (.idx (.var 0) (.int 1)) (.tup .nil))) [.frz (.tuple [x, y]), .no, .no, .no, .no] s = some (.bool c, s)) : ev call false cF [.frz (.tuple [x, y]), .no, .no, .no, .no] s = some (.bool c, s) :=
  r_or_ff (r_not (r_isinst (d := .tuple [x, y]) (r_var rfl))) rfl (r_or_ff (r_cmp (r_bf1t (r_var rfl) (rfl : bf .len [.tuple [x, y]] = some (.int 2)) rfl) (r_int 2) (cop_ne_int _ _)) rfl h)
theorem same_sn {x y : D} (sh : Sh 60 1000000 (.tuple [x, y])) (h : isTy .tuple y = false) : SameV (.tuple [x, y]) :=
  form_no sh fun call s => cF_two call s (r_or_t ((r_not (r_isinst (r_idx (r_var rfl) (r_int 1) rfl))).trans (by rw [h]; rfl)))
theorem cop_eq_rowX (a b : List Int) : cop .eq (rowD a) (rowD b) = some (decide (a = b)) := by
  show (if shp (rowD a) && shp (rowD b) then some ((rowD a).eqv (rowD b)) else none) = _
  rw [(pl_row (k := 0) a).shp (by omega), (pl_row (k := 0) b).shp (by omega), eqv_row]
  rfl
theorem same_se {x : D} (sh : Sh 60 1000000 (.tuple [x, .tuple []])) : SameV (.tuple [x, .tuple []]) :=
  form_no sh fun call s => cF_two call s (r_or_ff (r_not (r_isinst (d := .tuple []) (r_idx (r_var rfl) (r_int 1) rfl))) rfl (r_cmp (r_idx (r_var rfl) (r_int 1) rfl) (r_tup r_es0 (Nat.zero_le _)) (cop_eq_rowX [] [])))
theorem ne_nil {d : D} {ds : List D} (h : ∀ x ∈ d :: ds, Pl 10 x) : cop .eq (.tuple (d :: ds)) (.tuple []) = some false ∧ cop .ne (.list (d :: ds)) (.list []) = some true := by
  have s1 : shp (.tuple (d :: ds)) = true := (pl_tuple (k := 10) h).shp (by omega)
  have s2 : shp (.tuple []) = true := (pl_tuple (k := 10) (ds := []) fun x hx => absurd hx (by simp)).shp (by omega)
  have s3 : shp (.list (d :: ds)) = true := (pl_list (k := 10) h).shp (by omega)
  have s4 : shp (.list []) = true := (pl_list (k := 10) (ds := []) fun x hx => absurd hx (by simp)).shp (by omega)
  constructor
  · show (if shp (.tuple (d :: ds)) && shp (.tuple []) then some ((PyData.tuple (d :: ds)).eqv (.tuple [])) else none) = _
    rw [s1, s2]
    rfl
  · show (if shp (.list (d :: ds)) && shp (.list []) then some (!(PyData.list (d :: ds)).eqv (.list [])) else none) = _
    rw [s3, s4]
    rfl
section
variable {x : D} {ds : List D} (sh : Sh 60 1000000 (.tuple [x, .tuple ds])) (h0 : ds ≠ []) (hp : ∀ d ∈ ds, Pl 10 d)
include h0 hp
theorem cF_go (call : Call) (s : Src) : ev call false cF [.frz (.tuple [x, .tuple ds]), .no, .no, .no, .no] s = some (.bool false, s) := by
  have e : cop .eq (.tuple ds) (.tuple []) = some false := by
    cases ds with
    | nil => exact absurd rfl h0
    | cons d ds => exact (ne_nil hp).1
  exact cF_two call s (r_or_ff (r_not (r_isinst (d := .tuple ds) (r_idx (r_var rfl) (r_int 1) rfl))) rfl (r_cmp (r_idx (r_var rfl) (r_int 1) rfl) (r_tup r_es0 (Nat.zero_le _)) e))
include sh
/-- what m is -/
theorem same_bm (h : ∀ (call : Call) (y : E) (s : Src), ev call false (.or_ (.not_ (.isinst .int (.var 1))) (.or_ (.isinst .bool (.var 1)) (.or_ (.cmp .lt (.var 1) (.int 1)) y))) [.frz (.tuple [x, .tuple ds]), .frz x, .frz (.tuple ds), .no, .no] s = some (.bool true, s)) : SameV (.tuple [x, .tuple ds]) :=
  no_form sh (fun k s => gv (call_def rfl rfl rfl rfl (exs_no (cF_go h0 hp _ s) rfl (exs_unpack (r_var rfl) rfl (exs_if_ret (h _ _ s) rfl (exs_retv (r_bool false)))))))
    (fun k s => gv (call_def rfl rfl rfl rfl (exs_no (cF_go h0 hp _ s) rfl (exs_unpack (r_var rfl) rfl (exs_if_ret (h _ _ s) rfl (exs_retv (r_bool false)))))))
theorem same_bx (h : isTy .int x = false ∨ isTy .bool x = true) : SameV (.tuple [x, .tuple ds]) :=
  same_bm sh h0 hp fun call y s => by
    cases e : isTy .int x with
    | false => exact r_or_t ((r_not (r_isinst (d := x) (r_var rfl))).trans (by rw [e]; rfl))
    | true =>
      have hb : isTy .bool x = true := h.resolve_left (by rw [e]; simp)
      exact r_or_ff ((r_not (r_isinst (d := x) (r_var rfl))).trans (by rw [e]; rfl)) rfl (r_or_t ((r_isinst (d := x) (r_var rfl)).trans (by rw [hb])))
end
section
variable {M : Int} {ds : List D} (sh : Sh 60 1000000 (.tuple [.int M, .tuple ds])) (h0 : ds ≠ []) (hp : ∀ d ∈ ds, Pl 10 d)
include sh h0 hp
theorem same_lt (h : M < 1) : SameV (.tuple [.int M, .tuple ds]) :=
  same_bm sh h0 hp fun call y s => r_or_ff (r_not (r_isinst (d := .int M) (r_var rfl))) rfl (r_or_ff (r_isinst (d := .int M) (r_var rfl)) rfl (r_or_t ((r_cmp (r_var rfl) (r_int 1) (cop_lt_int _ _)).trans (by rw [decide_eq_true h]))))
end
theorem cop_sys {lots : List (List Int)} (hb : ∀ w ∈ lots, w.length ≤ 1000) : ∃ b, cop .eq (paperS lots) sysD = some b := by
  have ps : Pl 3 (.str (sN "sizes")) := ⟨by decide +kernel, by decide +kernel⟩
  have pe : Pl 3 (.str (sN "exchange")) := ⟨by decide +kernel, by decide +kernel⟩
  have sy : shp sysD = true := by decide +kernel
  rcases paper_kinds lots with ⟨z, w, e, _, _⟩ | ⟨one, other, a, e, _, _, _⟩ | e
  · rw [e]
    refine ⟨_, if_pos ?_⟩
    rw [sy, Bool.and_true]
    exact (pl_tuple (k := 3) fun d hd => by
      simp only [List.mem_cons, List.not_mem_nil, or_false] at hd
      rcases hd with rfl | rfl | rfl
      · exact ps
      · exact pl_row z
      · exact pl_row w).shp (by omega)
  · rw [e]
    refine ⟨_, if_pos ?_⟩
    rw [sy, Bool.and_true]
    exact (pl_tuple (k := 3) fun d hd => by
      simp only [List.mem_cons, List.not_mem_nil, or_false] at hd
      rcases hd with rfl | rfl | rfl | rfl
      · exact pe
      · exact pl_row one
      · exact pl_row other
      · exact pl_int a).shp (by omega)
  · rw [e]
    exact ⟨true, by decide +kernel⟩
theorem rows_of {M : Nat} : ∀ ds : List D, (∀ d ∈ ds, ∃ w, d = rowD w ∧ LotIn M w) → ∃ lots : List (List Int), ds = lots.map rowD ∧ ∀ w ∈ lots, LotIn M w
  | [], _ => ⟨[], rfl, fun w h => absurd h (by simp)⟩
  | d :: ds, h => by
    obtain ⟨w, e, hw⟩ := h d (.head _)
    obtain ⟨lots, e2, h2⟩ := rows_of ds fun x hx => h x (.tail _ hx)
    refine ⟨w :: lots, by rw [e, e2]; rfl, fun v hv => ?_⟩
    rcases List.mem_cons.mp hv with rfl | hv
    · exact hw
    · exact h2 v hv
/-- any items -/
theorem same_items {M : Nat} {ds : List D} (hM : 1 ≤ M) (sh : Sh 60 1000000 (.tuple [.int M, .tuple ds])) (h0 : ds ≠ []) (hp : ∀ d ∈ ds, Pl 10 d) (hl : ds.length ≤ 1000) (hM2 : M ≤ 1000) (lb : D → Bool) (hi : ∀ d ∈ ds, ItemOk M d (lb d)) : SameV (.tuple [.int M, .tuple ds]) := by
  have cj : ∀ k s, ev (callN Γ (k + 3)) false (.or_ (.not_ (.isinst .int (.var 1))) (.or_ (.isinst .bool (.var 1)) (.or_ (.cmp .lt (.var 1) (.int 1)) (.not_ (.bf .all (.cons (.comp (.call "is_things_lot" .none (.cons (.var 1) (.cons (.var 3) .nil))) (.name 3) (.over (.var 2)) (.bool true) [3]) .nil)))))) [.frz (.tuple [.int M, .tuple ds]), .frz (.int M), .frz (.tuple ds), .no, .no] s = some (.bool (!(ds.all lb)), s) := fun k s => by
    have c := r_comp1 (call := callN Γ (k + 3)) (b := true) (elt := .call "is_things_lot" .none (.cons (.var 1) (.cons (.var 3) .nil))) (t := .name 3) (it := .over (.var 2)) (own := [3]) (σ := [.frz (.tuple [.int M, .tuple ds]), .frz (.int M), .frz (.tuple ds), .no, .no]) (s := s) (s1 := s) id (fun d => .bool (lb d)) ds ((r_overT (r_var rfl)).trans (by rw [List.map_id])) (by unfold lim; omega) fun d hd s => ⟨[.frz (.tuple [.int M, .tuple ds]), .frz (.int M), .frz (.tuple ds), .frz d, .no], rfl, r_callv (r_es (r_var rfl) (r_es1 (r_var rfl))) ((hi d hd).j (k + 1) s) rfl rfl⟩
    have e : ds.map (fun d => PyData.bool (lb d)) = (ds.map lb).map .bool := by
      rw [List.map_map]
      rfl
    rw [e] at c
    have a : (ds.map lb).all id = ds.all lb := by rw [List.all_map]; rfl
    have ba := bf_all (ds.map lb)
    rw [a] at ba
    exact r_or_ff (r_not (r_isinst (d := .int (M : Int)) (r_var rfl))) rfl (r_or_ff (r_isinst (d := .int (M : Int)) (r_var rfl)) rfl (r_or_ff (r_cmp (r_var rfl) (r_int 1) (cop_lt_int _ _)) (decide_eq_false (by omega)) (r_not (r_bf1t c ba rfl))))
  have cf : ∀ k s, ev (callN Γ (k + 4)) false (.or_ (.not_ (.isinst .int (.var 1))) (.or_ (.isinst .bool (.var 1)) (.or_ (.cmp .lt (.var 1) (.int 1)) (.cmp .ne (.comp (.var 3) (.name 3) (.over (.var 2)) (.not_ (.call "_law_is_lot" .none (.cons (.var 1) (.cons (.var 3) .nil)))) [3]) (.lst .nil))))) [.frz (.tuple [.int M, .tuple ds]), .frz (.int M), .frz (.tuple ds), .no, .no] s = some (.bool (!(ds.all lb)), s) := fun k s => by
    have c := r_comp (call := callN Γ (k + 4)) (b := true) (elt := .var 3) (c := .not_ (.call "_law_is_lot" .none (.cons (.var 1) (.cons (.var 3) .nil)))) (t := .name 3) (it := .over (.var 2)) (own := [3]) (σ := [.frz (.tuple [.int M, .tuple ds]), .frz (.int M), .frz (.tuple ds), .no, .no]) (s := s) (s1 := s) id (fun d => !lb d) id ds ((r_overT (r_var rfl)).trans (by rw [List.map_id])) (by unfold lim; omega) fun d hd s => ⟨[.frz (.tuple [.int M, .tuple ds]), .frz (.int M), .frz (.tuple ds), .frz d, .no], rfl, r_not (r_callv (r_es (r_var rfl) (r_es1 (r_var rfl))) ((hi d hd).f (k + 3) s) rfl rfl), fun _ => r_var rfl⟩
    rw [List.map_id] at c
    have e : cop .ne (.list (ds.filter fun d => !lb d)) (.list []) = some (!(ds.all lb)) := by
      cases q : ds.all lb with
      | true =>
        have : ds.filter (fun d => !lb d) = [] := List.filter_eq_nil_iff.mpr fun d hd => by
          rw [List.all_eq_true.mp q d hd]
          simp
        rw [this]
        exact cop_ne_ways0 []
      | false =>
        obtain ⟨d, hd, nb⟩ := List.all_eq_false.mp q
        have : d ∈ ds.filter (fun d => !lb d) := List.mem_filter.mpr ⟨hd, by simpa using nb⟩
        cases z : ds.filter (fun d => !lb d) with
        | nil => rw [z] at this; exact absurd this (by simp)
        | cons a r => exact (ne_nil fun x hx => hp x (by
            have : x ∈ ds.filter (fun d => !lb d) := by rw [z]; exact hx
            exact (List.mem_filter.mp this).1)).2
    exact r_or_ff (r_not (r_isinst (d := .int (M : Int)) (r_var rfl))) rfl (r_or_ff (r_isinst (d := .int (M : Int)) (r_var rfl)) rfl (r_or_ff (r_cmp (r_var rfl) (r_int 1) (cop_lt_int _ _)) (decide_eq_false (by omega)) (r_cmp c r_lst0 e)))
  cases q : ds.all lb with
  | false =>
    refine no_form sh (fun k s => ?_) (fun k s => ?_)
    · have c := cj k s
      rw [q] at c
      exact gv (call_def rfl rfl rfl rfl (exs_no (cF_go h0 hp _ s) rfl (exs_unpack (r_var rfl) rfl (exs_if_ret c rfl (exs_retv (r_bool false))))))
    · have c := cf k s
      rw [q] at c
      exact gv (call_def rfl rfl rfl rfl (exs_no (cF_go h0 hp _ s) rfl (exs_unpack (r_var rfl) rfl (exs_if_ret c rfl (exs_retv (r_bool false))))))
  | true =>
    obtain ⟨lots, el, hw⟩ : ∃ lots : List (List Int), ds = lots.map rowD ∧ ∀ w ∈ lots, LotIn M w := rows_of ds fun d hd => (hi d hd).w (List.all_eq_true.mp q d hd)
    have ll : lots.length ≤ 1000 := by rw [el, List.length_map] at hl; exact hl
    have lw : ∀ w ∈ lots, w.length ≤ 1000 := fun w hx => by have := (hw w hx).len; omega
    have ln : lots ≠ [] := fun e => by rw [e] at el; exact h0 el
    have asc := fun (call : Call) (s : Src) (b : Bool) => r_ascG (call := call) (σ := [.frz (.tuple [.int M, .tuple ds]), .frz (.int M), .frz (.tuple ds), .no, .no]) (s := s) (x := 2) (k := 4) rowD lexLe [] lots (by omega) cop_le_rowX (by rw [← el]; exact r_var rfl) (fun i s => ⟨[.frz (.tuple [.int M, .tuple ds]), .frz (.int M), .frz (.tuple ds), .no, .frz (.int i)], rfl, by rw [← el]; exact r_var rfl, fun _ => r_var rfl⟩) b
    refine ⟨sh, fun k s => ?_⟩
    have c1 := cj k s
    have c2 := cf k s
    rw [q] at c1 c2
    obtain ⟨t1, a1, b1⟩ := asc (callN Γ (k + 3)) s false
    obtain ⟨t2, a2, b2⟩ := asc (callN Γ (k + 4)) s false
    have t12 : t1 = t2 := by rw [Bool.eq_iff_iff, b1, b2]
    subst t12
    have f1 : Gives "is_lots_form" false (callN Γ (k + 4)) [.tuple [.int M, .tuple ds]] s (.bool t1) s := gv (call_def rfl rfl rfl rfl (exs_no (cF_go h0 hp _ s) rfl (exs_unpack (r_var rfl) rfl (exs_no c1 rfl (exs_retv a1)))))
    have f2 : Gives "_law_is_form" false (callN Γ (k + 5)) [.tuple [.int M, .tuple ds]] s (.bool t1) s := gv (call_def rfl rfl rfl rfl (exs_no (cF_go h0 hp _ s) rfl (exs_unpack (r_var rfl) rfl (exs_no c2 rfl (exs_retv a2)))))
    cases t1 with
    | false => exact ⟨false, gv (call_def rfl rfl rfl rfl (exs_retv (r_and_f (r_callv (r_es1 (r_var rfl)) f1 rfl rfl)))), .inl ⟨rfl, f2⟩⟩
    | true =>
      have asc := rows_asc lots (b1.mp rfl)
      have nd : lots.Nodup := List.nodup_iff_pairwise_ne.mpr (asc.imp fun {a b} q e => by subst e; exact List.lt_irrefl _ q)
      obtain ⟨b, hb⟩ := cop_sys lw
      have p1 := syspaper_gen (m := (M : Int)) ln ll lw nd (k + 2) s
      have p2 := lawpaper_gen (m := (M : Int)) ln ll lw (k + 3) s
      subst el
      exact ⟨b, gv (call_def rfl rfl rfl rfl (exs_retv (r_and_t (r_callv (r_es1 (r_var rfl)) f1 rfl rfl) (r_cmp (r_callv (r_es1 (r_var rfl)) p1 rfl rfl) (r_tup (r_es1 (r_str _)) (show 1 ≤ lim by decide)) hb)))), .inr ⟨f2, _, p2, hb⟩⟩
end Mp

/-! P2s: slices of rows. -/
namespace Mp
open PySem
theorem sl_take (lots : List (List Int)) (k : Nat) : sliceD (.tuple (lots.map rowD)) none (some (k : Int)) = some (.tuple ((lots.take k).map rowD)) := by
  show some (PyData.tuple (cutD (lots.map rowD) none (some (k : Int)))) = _
  rw [cut_take _ (by omega), Int.toNat_natCast, ← List.map_take]
theorem sl_drop (lots : List (List Int)) (k : Nat) : sliceD (.tuple (lots.map rowD)) (some ((k : Int) + 1)) none = some (.tuple ((lots.drop (k + 1)).map rowD)) := by
  show some (PyData.tuple (cutD (lots.map rowD) (some ((k + 1 : Nat) : Int)) none)) = _
  rw [cut_drop, ← List.map_drop]
theorem item_row {lots : List (List Int)} {k : Nat} {A : List Int} (hk : lots[k]? = some A) : itemAt (.tuple (lots.map rowD)) (.int (k : Int)) = some (rowD A) := item_tuple (d := rowD A) (by rw [List.getElem?_map, hk]; rfl)
end Mp

/-! J3: k15: the values. -/
namespace Mp
open PySem
abbrev Sm (d : D) : Prop := Sh 3 200 d
theorem sm_rowX {w : List Int} (h : ∀ x ∈ w, 0 ≤ x ∧ x < 16) (hl : w.length ≤ 16) : Sm (rowD w) := (sh_row (k := 0) h hl).up (by omega) (by omega)
theorem sm_intX {i : Int} (h : 0 ≤ i ∧ i < 16) : Sm (.int i) := (sh_int (k := 3) h).up (by omega) (by omega)
theorem sm_lot {m : Nat} {w : List Int} (hm : m ≤ 7) (h : LotIn m w) : Sm (rowD w) := sm_rowX (fun x hx => by have := h.2 x hx; omega) (by have := h.len; omega)
theorem sm_boolX (b : Bool) : Sm (.bool b) := by
  cases b <;> exact ⟨⟨by unfold PyData.canLay0; rfl, by unfold PyData.depth; omega⟩, by decide +kernel, by decide +kernel, by decide +kernel, by decide +kernel⟩
theorem sm_zero : Sm (.str (sN "0")) := ⟨⟨by decide +kernel, by decide +kernel⟩, by decide +kernel, by decide +kernel, by decide +kernel, by decide +kernel⟩
theorem sm_sizes : Sm (.str (sN "sizes")) := ⟨⟨by decide +kernel, by decide +kernel⟩, by decide +kernel, by decide +kernel, by decide +kernel, by decide +kernel⟩
theorem sm_exch : Sm (.str (sN "exchange")) := ⟨⟨by decide +kernel, by decide +kernel⟩, by decide +kernel, by decide +kernel, by decide +kernel, by decide +kernel⟩
theorem sm_sys : Sm (.str (sN "system")) := ⟨⟨by decide +kernel, by decide +kernel⟩, by decide +kernel, by decide +kernel, by decide +kernel, by decide +kernel⟩
theorem sm_pl {d : D} (h : Sm d) : Pl 10 d := (h.up (k' := 10) (w' := 200) (by omega) (by omega)).pl
theorem sh_pr {x : D} {ds : List D} (hx : Sm x) (hd : ∀ d ∈ ds, Sm d) (hl : ds.length ≤ 300) : Sh 60 1000000 (.tuple [x, .tuple ds]) := by
  have h1 : Sh 4 60300 (.tuple ds) := (sh_tuple (k := 3) (l := 300) (w := 200) hd hl).up (by omega) (by omega)
  exact (sh_tuple (k := 4) (l := 2) (w := 60300) (ds := [x, .tuple ds]) (fun d hd => by
    rcases List.mem_cons.mp hd with rfl | hd
    · exact hx.up (by omega) (by omega)
    · rw [List.mem_singleton.mp hd]
      exact h1) (by simp)).up (by omega) (by omega)
theorem items_any {M : Nat} {ds : List D} (hM : 1 ≤ M) (hM2 : M ≤ 100) (hd : ∀ d ∈ ds, Sm d) (h0 : ds ≠ []) (hl : ds.length ≤ 300) (hx : Sm (.int M)) (hi : ∀ d ∈ ds, ∃ b, ItemOk M d b) : SameV (.tuple [.int M, .tuple ds]) := by
  classical
  refine same_items hM (sh_pr hx hd hl) h0 (fun d h => sm_pl (hd d h)) (by omega) (by omega) (fun d => if h : ∃ b, ItemOk M d b then h.choose else false) fun d h => ?_
  rw [dif_pos (hi d h)]
  exact (hi d h).choose_spec
/-- odd values -/
inductive Odd (m : Nat) : D → Prop
  | nt {d : D} (h : isTy .tuple d = false) (sm : Sm d) (x : (isTy .int d = false ∨ isTy .bool d = true) ∨ d = .int 0) : Odd m d
  | nil : Odd m (.tuple [])
  | two : Odd m (.tuple [.int 0, .int 0])
  | one : Odd m (.tuple [.int m])
  | tt : Odd m (.tuple [rowD [0]])
section
variable {m : Nat} (hm1 : 1 ≤ m) (hm : m ≤ 7) {o : D}
include hm1 hm
theorem Odd.sm (h : Odd m o) : Sm o := by
  cases h with
  | nt _ s _ => exact s
  | nil => exact sm_rowX (w := []) (fun x hx => absurd hx (by simp)) (by simp)
  | two => exact sm_rowX (w := [0, 0]) (fun x hx => by simp at hx; omega) (by simp)
  | one => exact sm_rowX (w := [(m : Int)]) (fun x hx => by simp at hx; omega) (by simp)
  | tt => exact (sh_tuple (k := 1) (l := 1) (w := 80) (fun d hd => by
      rw [List.mem_singleton.mp hd]
      exact sh_row (k := 0) (fun x hx => by simp at hx; omega) (by simp)) (by simp)).up (by omega) (by omega)
theorem Odd.item (h : Odd m o) (M : Nat) (hM : M ≤ 100) : ∃ b, ItemOk M o b := by
  cases h with
  | nt h _ _ => exact ⟨false, item_nt h⟩
  | nil => exact item_rowX M hM [] (by simp)
  | two => exact item_rowX M hM [0, 0] (by simp)
  | one => exact item_rowX M hM [(m : Int)] (by simp)
  | tt => exact ⟨false, item_tt M⟩
theorem Odd.self (h : Odd m o) : SameV o := by
  have sh : Sh 60 1000000 o := (h.sm hm1 hm).up (by omega) (by omega)
  cases h with
  | nt h _ _ => exact same_nt sh h
  | nil => exact same_ln sh (by simp)
  | two => exact same_sn sh rfl
  | one => exact same_ln sh (by simp)
  | tt => exact same_ln sh (by simp)
theorem Odd.first (h : Odd m o) {ds : List D} (hd : ∀ d ∈ ds, Sm d) (h0 : ds ≠ []) (hl : ds.length ≤ 300) : SameV (.tuple [o, .tuple ds]) := by
  have sh := sh_pr (h.sm hm1 hm) hd hl
  have hp : ∀ d ∈ ds, Pl 10 d := fun d h => sm_pl (hd d h)
  cases h with
  | nt _ _ x =>
    rcases x with x | rfl
    · exact same_bx sh h0 hp x
    · exact same_lt sh h0 hp (by omega)
  | nil => exact same_bx sh h0 hp (.inl rfl)
  | two => exact same_bx sh h0 hp (.inl rfl)
  | one => exact same_bx sh h0 hp (.inl rfl)
  | tt => exact same_bx sh h0 hp (.inl rfl)
theorem Odd.second (h : Odd m o) : SameV (.tuple [.int m, o]) := by
  have si : Sm (.int (m : Int)) := sm_intX ⟨by omega, by omega⟩
  have sh2 : ∀ y, Sm y → Sh 60 1000000 (.tuple [.int m, y]) := fun y hy => (sh_tuple (k := 3) (l := 2) (w := 200) (ds := [.int m, y]) (fun d hd => by
    rcases List.mem_cons.mp hd with rfl | hd
    · exact si
    · rw [List.mem_singleton.mp hd]
      exact hy) (by simp)).up (by omega) (by omega)
  have so := h.sm hm1 hm
  cases h with
  | nt h _ _ => exact same_sn (sh2 o so) h
  | nil => exact same_se (sh2 _ so)
  | two =>
    refine items_any hm1 (by omega) (fun d hd => ?_) (by simp) (by simp) si fun d hd => ?_
    · simp only [List.mem_cons, List.not_mem_nil, or_false, or_self] at hd
      rw [hd]
      exact sm_intX ⟨by omega, by omega⟩
    · simp only [List.mem_cons, List.not_mem_nil, or_false, or_self] at hd
      rw [hd]
      exact ⟨false, item_nt rfl⟩
  | one =>
    refine items_any hm1 (by omega) (fun d hd => ?_) (by simp) (by simp) si fun d hd => ?_
    · rw [List.mem_singleton.mp hd]
      exact si
    · rw [List.mem_singleton.mp hd]
      exact ⟨false, item_nt rfl⟩
  | tt =>
    refine items_any hm1 (by omega) (fun d hd => ?_) (by simp) (by simp) si fun d hd => ?_
    · rw [List.mem_singleton.mp hd]
      exact sm_rowX (fun x hx => by simp at hx; omega) (by simp)
    · rw [List.mem_singleton.mp hd]
      exact item_rowX m (by omega) [0] (by simp)
theorem odd_of {o : D} (h : o ∈ [PyData.none, .bool true, .int 0, .tuple [], .tuple [.int 0, .int 0], .tuple [.int (m : Int)], .list [.int 0], .str (sN "0"), .tuple [.tuple [.int 0]]]) : Odd m o := by
  simp only [List.mem_cons, List.not_mem_nil, or_false] at h
  rcases h with rfl | rfl | rfl | rfl | rfl | rfl | rfl | rfl | rfl
  · exact .nt rfl ((sh_none (k := 3)).up (by omega) (by omega)) (.inl (.inl rfl))
  · exact .nt rfl (sm_boolX true) (.inl (.inr rfl))
  · exact .nt rfl (sm_intX ⟨by omega, by omega⟩) (.inr rfl)
  · exact .nil
  · exact .two
  · exact .one
  · exact .nt rfl ((sh_list (k := 2) (l := 1) (w := 4) (fun d hd => by rw [List.mem_singleton.mp hd]; exact sh_int ⟨by omega, by omega⟩) (by simp)).up (by omega) (by omega)) (.inl (.inl rfl))
  · exact .nt rfl sm_zero (.inl (.inl rfl))
  · exact .tt
/-- all values -/
theorem all_vals {bs : List (List Int)} (b0 : bs ≠ []) (bl : bs.length ≤ 200) (hb : ∀ b ∈ bs, LotIn m b) (ho : Odd m o) (k : Nat) :
    ∀ v ∈ (([prD m bs, .list [.int m, .tuple (bs.map rowD)], .tuple [.int m, .list (bs.map rowD)], .tuple [.int m, .tuple []], .tuple [.int 0, .tuple [.tuple []]], .tuple [.int 1, .tuple [.tuple []]], .tuple [.int m, .tuple (bs.map rowD).reverse]] ++ [.tuple [.int ((m : Int) - 1), .tuple (bs.map rowD)], .tuple [.int ((m : Int) + 1), .tuple (bs.map rowD)], .tuple [o, .tuple (bs.map rowD)], .tuple [.int m, o], .tuple [.int m, .tuple (bs.map rowD), .int 0], .tuple [.int m]]) ++ [o, .none]) ++ [.tuple [.int m, .tuple ((bs.take k).map rowD ++ [o] ++ (bs.drop (k + 1)).map rowD)]], SameV v := by
  have si : Sm (.int (m : Int)) := sm_intX ⟨by omega, by omega⟩
  have s0 : Sm (.int 0) := sm_intX ⟨by omega, by omega⟩
  have s1 : Sm (.int 1) := sm_intX ⟨by omega, by omega⟩
  have sd : ∀ d ∈ bs.map rowD, Sm d := fun d hd => by
    obtain ⟨w, hw, rfl⟩ := List.mem_map.mp hd
    exact sm_lot hm (hb w hw)
  have d0 : bs.map rowD ≠ [] := fun e => b0 (List.map_eq_nil_iff.mp e)
  have dl : (bs.map rowD).length ≤ 300 := by rw [List.length_map]; omega
  have it : ∀ (M : Nat), M ≤ 100 → ∀ d ∈ bs.map rowD, ∃ b, ItemOk M d b := fun M hM d hd => by
    obtain ⟨w, hw, rfl⟩ := List.mem_map.mp hd
    exact item_rowX M hM w (by have := (hb w hw).len; omega)
  have st : Sh 4 60300 (.tuple (bs.map rowD)) := (sh_tuple (k := 3) (l := 300) (w := 200) sd dl).up (by omega) (by omega)
  have sl : Sh 4 60300 (.list (bs.map rowD)) := (sh_list (k := 3) (l := 300) (w := 200) sd dl).up (by omega) (by omega)
  have sn : Sm (rowD []) := sm_rowX (fun x hx => absurd hx (by simp)) (by simp)
  intro v hv
  simp only [List.mem_append, List.mem_cons, List.not_mem_nil, or_false] at hv
  rcases hv with ((((rfl | rfl | rfl | rfl | rfl | rfl | rfl) | (rfl | rfl | rfl | rfl | rfl | rfl)) | (rfl | rfl)) | rfl)
  · exact items_any hm1 (by omega) sd d0 dl si (it m (by omega))
  · exact same_nt ((sh_list (k := 4) (l := 2) (w := 60300) (ds := [.int m, .tuple (bs.map rowD)]) (fun d hd => by
      rcases List.mem_cons.mp hd with rfl | hd
      · exact si.up (by omega) (by omega)
      · rw [List.mem_singleton.mp hd]
        exact st) (by simp)).up (by omega) (by omega)) rfl
  · exact same_sn ((sh_tuple (k := 4) (l := 2) (w := 60300) (ds := [.int m, .list (bs.map rowD)]) (fun d hd => by
      rcases List.mem_cons.mp hd with rfl | hd
      · exact si.up (by omega) (by omega)
      · rw [List.mem_singleton.mp hd]
        exact sl) (by simp)).up (by omega) (by omega)) rfl
  · exact same_se (sh_pr si (fun d hd => absurd hd (by simp)) (by simp))
  · exact same_lt (sh_pr s0 (fun d hd => by rw [List.mem_singleton.mp hd]; exact sn) (by simp)) (by simp) (fun d hd => by rw [List.mem_singleton.mp hd]; exact sm_pl sn) (by omega)
  · exact items_any (M := 1) (by omega) (by omega) (fun d hd => by rw [List.mem_singleton.mp hd]; exact sn) (by simp) (by simp) s1 fun d hd => by
      rw [List.mem_singleton.mp hd]
      exact item_rowX 1 (by omega) [] (by simp)
  · exact items_any hm1 (by omega) (fun d hd => sd d (List.mem_reverse.mp hd)) (by simpa using b0) (by rw [List.length_reverse]; exact dl) si fun d hd => it m (by omega) d (List.mem_reverse.mp hd)
  · by_cases q : m = 1
    · exact same_lt (sh_pr (sm_intX ⟨by omega, by omega⟩) sd dl) d0 (fun d hd => sm_pl (sd d hd)) (by omega)
    · have e : (m : Int) - 1 = ((m - 1 : Nat) : Int) := by omega
      rw [e]
      exact items_any (M := m - 1) (by omega) (by omega) sd d0 dl (sm_intX ⟨by omega, by omega⟩) (it (m - 1) (by omega))
  · have e : (m : Int) + 1 = ((m + 1 : Nat) : Int) := by omega
    rw [e]
    exact items_any (M := m + 1) (by omega) (by omega) sd d0 dl (sm_intX ⟨by omega, by omega⟩) (it (m + 1) (by omega))
  · exact ho.first hm1 hm sd d0 dl
  · exact ho.second hm1 hm
  · exact same_ln ((sh_tuple (k := 4) (l := 3) (w := 60300) (ds := [.int m, .tuple (bs.map rowD), .int 0]) (fun d hd => by
      simp only [List.mem_cons, List.not_mem_nil, or_false] at hd
      rcases hd with rfl | rfl | rfl
      · exact si.up (by omega) (by omega)
      · exact st
      · exact s0.up (by omega) (by omega)) (by simp)).up (by omega) (by omega)) (by simp)
  · exact same_ln ((sh_tuple (k := 3) (l := 1) (w := 200) (ds := [.int m]) (fun d hd => by rw [List.mem_singleton.mp hd]; exact si) (by simp)).up (by omega) (by omega)) (by simp)
  · exact ho.self hm1 hm
  · exact same_nt ((sh_none (k := 3)).up (by omega) (by omega)) rfl
  · have mem : ∀ d ∈ (bs.take k).map rowD ++ [o] ++ (bs.drop (k + 1)).map rowD, d ∈ bs.map rowD ∨ d = o := fun d hd => by
      simp only [List.mem_append, List.mem_cons, List.not_mem_nil, or_false] at hd
      rcases hd with (h | h) | h
      · obtain ⟨w, hw, rfl⟩ := List.mem_map.mp h
        exact .inl (List.mem_map.mpr ⟨w, List.mem_of_mem_take hw, rfl⟩)
      · exact .inr h
      · obtain ⟨w, hw, rfl⟩ := List.mem_map.mp h
        exact .inl (List.mem_map.mpr ⟨w, List.mem_of_mem_drop hw, rfl⟩)
    refine items_any hm1 (by omega) (fun d hd => (mem d hd).elim (sd d) fun e => by rw [e]; exact ho.sm hm1 hm) (by simp) ?_ si fun d hd => (mem d hd).elim (it m (by omega) d) fun e => by rw [e]; exact ho.item hm1 hm m (by omega)
    rw [List.length_append, List.length_append, List.length_map, List.length_map, List.length_singleton, List.length_take, List.length_drop]
    omega
end
theorem sh_paper {m : Nat} (hm : m ≤ 7) {lots : List (List Int)} (h0 : lots ≠ []) (hw : ∀ w ∈ lots, LotIn m w) (b : Bool) : Sh 60 1000000 (.list [paperS lots, .bool b]) := by
  have hp : Sh 4 804 (paperS lots) := by
    rcases paper_kinds lots with ⟨z, w, e, hz, h2⟩ | ⟨one, other, a, e, h1, h2, h3⟩ | e
    · rw [e]
      have zl : z ∈ lots := by
        rw [hz]
        cases lots with
        | nil => exact absurd rfl h0
        | cons x r => exact .head _
      exact (sh_tuple (k := 3) (l := 4) (w := 200) (fun d hd => by
        simp only [List.mem_cons, List.not_mem_nil, or_false] at hd
        rcases hd with rfl | rfl | rfl
        · exact sm_sizes
        · exact sm_lot hm (hw z zl)
        · exact sm_lot hm (hw w h2)) (by simp))
    · rw [e]
      have := (hw one h1).2 a h3
      exact (sh_tuple (k := 3) (l := 4) (w := 200) (fun d hd => by
        simp only [List.mem_cons, List.not_mem_nil, or_false] at hd
        rcases hd with rfl | rfl | rfl | rfl
        · exact sm_exch
        · exact sm_lot hm (hw one h1)
        · exact sm_lot hm (hw other h2)
        · exact sm_intX ⟨by omega, by omega⟩) (by simp))
    · rw [e]
      exact (sh_tuple (k := 3) (l := 4) (w := 200) (fun d hd => by rw [List.mem_singleton.mp hd]; exact sm_sys) (by simp))
  exact (sh_list (k := 4) (l := 2) (w := 804) (ds := [paperS lots, .bool b]) (fun d hd => by
    rcases List.mem_cons.mp hd with rfl | hd
    · exact hp
    · rw [List.mem_singleton.mp hd]
      exact (sm_boolX b).up (by omega) (by omega)) (by simp)).up (by omega) (by omega)
end Mp

/-! Z: k15's law. -/
namespace Mp
open PySem L2 PyProof.Rows PySem.W
abbrev E15 (x2 x3 x4 x5 x6 x7 x8 x9 x10 x11 x12 x13 x14 x15 x16 x17 x18 : Slot) : Ev := [.no, .src, x2, x3, x4, x5, x6, x7, x8, x9, x10, x11, x12, x13, x14, x15, x16, x17, x18]
def gS0 : S := (.assign 3 false (.bin .add (.int 1) (.call "_law_pick" (.some 1) (.cons (.idx (.lst (.cons (.int 3) (.cons (.int 4) (.cons (.int 5) (.cons (.int 5) .nil))))) (.var 2)) .nil))))
def gS1 : S := (.assign 4 false (.call "_law_system" (.some 1) (.cons (.var 3) .nil)))
def gS2 : S := (.if_ (.or_ (.notB (.call "is_system" .none (.cons (.var 4) .nil)) true) (.cmp .ne (.call "system_paper" .none (.cons (.var 4) .nil)) (.tup (.cons (.str (sN "system")) .nil)))) (.cons (.ret (.bool false)) .nil) .nil)
def gS3 : S := (.assign 5 false (.call "_law_lots" .none (.cons (.var 3) .nil)))
def gS4 : S := (.assign 6 false (.bf .tuple (.cons (.bf .sorted (.cons (.bf .dict (.cons (.comp (.tup (.cons (.call "_law_of" (.some 1) (.cons (.var 5) .nil)) (.cons (.int 0) .nil))) (.name 13) (.range1 (.bin .add (.int 1) (.call "_law_pick" (.some 1) (.cons (.int 5) .nil)))) (.bool true) [13]) .nil)) .nil)) .nil)))
def gS5 : S := (.assigns [(13 , false), (14 , false)] (.cons (.call "_law_pick" (.some 1) (.cons (.bf .len (.cons (.idx (.var 4) (.int 1)) .nil)) .nil)) (.cons (.call "_law_of" (.some 1) (.cons (.var 5) .nil)) .nil)))
def gS6 : S := (.assign 7 false (.bin .add (.slice (.idx (.var 4) (.int 1)) .none (.some (.var 13))) (.slice (.idx (.var 4) (.int 1)) (.some (.bin .add (.var 13) (.int 1))) .none)))
def gS7 : S := (.assign 8 false (.lst (.cons (.tup (.cons (.var 3) (.cons (.var 6) .nil))) (.cons (.tup (.cons (.var 3) (.cons (.bf .tuple (.cons (.bf .sorted (.cons (.bf .dict (.cons (.comp (.tup (.cons (.var 18) (.cons (.int 0) .nil))) (.name 18) (.over (.bin .add (.idx (.var 4) (.int 1)) (.tup (.cons (.var 14) .nil)))) (.bool true) [18]) .nil)) .nil)) .nil)) .nil))) .nil))))
def gS8 : S := (.assign 8 false (.bin .add (.var 8) (.bin .mul (.lst (.cons (.tup (.cons (.var 3) (.cons (.var 7) .nil))) .nil)) (.bf .int (.cons (.cmp .ne (.var 7) (.tup .nil)) .nil)))))
def pB0 : S := (.assigns [(16 , false), (15 , false)] (.cons (.bf .repr (.cons (.var 9) .nil)) (.cons (.call "_law_paper" .none (.cons (.var 9) .nil)) .nil)))
def pB1 : S := (.if_ (.or_ (.cmp .ne (.bf .repr (.cons (.lst (.cons (.call "system_paper" .none (.cons (.var 9) .nil)) (.cons (.call "is_system" .none (.cons (.var 9) .nil)) .nil))) .nil)) (.bf .repr (.cons (.lst (.cons (.var 15) (.cons (.cmp .eq (.var 15) (.tup (.cons (.str (sN "system")) .nil))) .nil))) .nil))) (.cmp .ne (.bf .repr (.cons (.var 9) .nil)) (.var 16))) (.cons (.ret (.bool false)) .nil) .nil)
def pB : Ss := .cons pB0 (.cons pB1 .nil)
def gS9 : S := (.for_ (.name 9) (.over (.var 8)) [1, 3, 4, 13, 18] pB)
def gS10 : S := (.assign 10 false (.call "_law_of" (.some 1) (.cons (.lst (.cons .none (.cons (.bool true) (.cons (.int 0) (.cons (.tup .nil) (.cons (.tup (.cons (.int 0) (.cons (.int 0) .nil))) (.cons (.tup (.cons (.var 3) .nil)) (.cons (.lst (.cons (.int 0) .nil)) (.cons (.str (sN "0")) (.cons (.tup (.cons (.tup (.cons (.int 0) .nil)) .nil)) .nil)))))))))) .nil)))
def gS11 : S := (.assign 11 true (.lst (.cons (.var 4) (.cons (.bf .list (.cons (.var 4) .nil)) (.cons (.tup (.cons (.var 3) (.cons (.bf .list (.cons (.idx (.var 4) (.int 1)) .nil)) .nil))) (.cons (.tup (.cons (.var 3) (.cons (.tup .nil) .nil))) (.cons (.tup (.cons (.int 0) (.cons (.tup (.cons (.tup .nil) .nil)) .nil))) (.cons (.tup (.cons (.int 1) (.cons (.tup (.cons (.tup .nil) .nil)) .nil))) (.cons (.tup (.cons (.var 3) (.cons (.rev (.idx (.var 4) (.int 1))) .nil))) .nil)))))))))
def gS12 : S := (.assign 11 true (.bin .add (.var 11) (.lst (.cons (.tup (.cons (.bin .sub (.var 3) (.int 1)) (.cons (.idx (.var 4) (.int 1)) .nil))) (.cons (.tup (.cons (.bin .add (.var 3) (.int 1)) (.cons (.idx (.var 4) (.int 1)) .nil))) (.cons (.tup (.cons (.var 10) (.cons (.idx (.var 4) (.int 1)) .nil))) (.cons (.tup (.cons (.var 3) (.cons (.var 10) .nil))) (.cons (.bin .add (.var 4) (.tup (.cons (.int 0) .nil))) (.cons (.tup (.cons (.var 3) .nil)) .nil)))))))))
def gS13 : S := (.assign 11 true (.bin .add (.var 11) (.lst (.cons (.var 10) (.cons .none .nil)))))
def gS14 : S := (.mut .append 11 (.tup (.cons (.var 3) (.cons (.bin .add (.bin .add (.slice (.idx (.var 4) (.int 1)) .none (.some (.var 13))) (.tup (.cons (.var 10) .nil))) (.slice (.idx (.var 4) (.int 1)) (.some (.bin .add (.var 13) (.int 1))) .none)) .nil))))
def vB0 : S := (.assigns [(17 , false), (15 , false)] (.cons (.bf .repr (.cons (.var 12) .nil)) (.cons (.call "_law_is_form" .none (.cons (.var 12) .nil)) .nil)))
def vB1 : S := (.assign 15 false (.and_ (.var 15) (.cmp .eq (.call "_law_paper" .none (.cons (.var 12) .nil)) (.tup (.cons (.str (sN "system")) .nil)))))
def vB2 : S := (.if_ (.or_ (.cmp .ne (.bf .repr (.cons (.call "is_system" .none (.cons (.var 12) .nil)) .nil)) (.bf .repr (.cons (.var 15) .nil))) (.cmp .ne (.bf .repr (.cons (.var 12) .nil)) (.var 17))) (.cons (.ret (.bool false)) .nil) .nil)
def vB : Ss := .cons vB0 (.cons vB1 (.cons vB2 .nil))
def gS16 : S := (.for_ (.name 12) (.over (.var 11)) [1, 18] vB)
def gAll : Ss := .cons gS0 (.cons gS1 (.cons gS2 (.cons gS3 (.cons gS4 (.cons gS5 (.cons gS6 (.cons gS7 (.cons gS8 (.cons gS9 (.cons gS10 (.cons gS11 (.cons gS12 (.cons gS13 (.cons gS14 (.cons (.freeze 11) (.cons gS16 .nil))))))))))))))))
theorem bop_add_T (xs ys : List D) (h : xs.length + ys.length ≤ lim) : bop .add (.tuple xs) (.tuple ys) = some (.tuple (xs ++ ys)) := if_pos h
theorem bop_add_L (xs ys : List D) (h : xs.length + ys.length ≤ lim) : bop .add (.list xs) (.list ys) = some (.list (xs ++ ys)) := if_pos h
theorem mul_listX (xs : List D) (k : Int) (h : -(2 ^ 63) ≤ k ∧ k < 2 ^ 63 ∧ xs.length * k.toNat ≤ lim) : bop .mul (.list xs) (.int k) = some (.list (List.replicate k.toNat xs).flatten) := if_pos h
theorem mul0 (x : D) : bop .mul (.list [x]) (.int 0) = some (.list []) := mul_listX [x] 0 (by rw [List.length_singleton]; decide)
theorem mul1 (x : D) : bop .mul (.list [x]) (.int 1) = some (.list [x]) := mul_listX [x] 1 (by rw [List.length_singleton]; decide)
theorem kp_ne : ∀ (ws : List (List Int)), ws ≠ [] → kputs [] ws ≠ [] := fun ws h e => by
  obtain ⟨w, hw⟩ := List.exists_mem_of_ne_nil ws h
  have := (mem_kputs ws [] w).mpr (.inr hw)
  rw [e] at this
  exact absurd this (by simp)
/-- a pair of unlike lots, ascending -/
structure PrOk (m : Nat) (lots : List (List Int)) : Prop where
  ne : lots ≠ []
  len : lots.length ≤ 200
  lot : ∀ w ∈ lots, LotIn m w
  asc : lots.Pairwise (· < ·)
theorem pr_sorted {m : Nat} (hm : m ≤ 7) {ws : List (List Int)} (h0 : ws ≠ []) (hw : ∀ w ∈ ws, LotIn m w) : PrOk m (sortR (kputs [] ws)) := by
  have k0 : KO m [] := ⟨List.nodup_nil, fun w h => absurd h (by simp)⟩
  have ko := k0.puts hw
  have kl := ko.len hm
  refine ⟨fun e => kp_ne ws h0 ?_, by rw [(sortR_perm _).length_eq]; omega, fun w h => ko.lot w ((sortR_perm _).mem_iff.mp h), sortR_asc ko.nd⟩
  have := (sortR_perm (kputs [] ws)).length_eq
  rw [e] at this
  exact List.length_eq_zero_iff.mp this.symm
theorem pair_run {m : Nat} (hm1 : 1 ≤ m) (hm : m ≤ 7) {lots : List (List Int)} (P : PrOk m lots) (x4 x13 x3 : Slot) (s : Src) : ∃ σ2, execs (callN Γ 12) fuelW pB (E15 .no x3 x4 .no .no .no .no (.frz (prD m lots)) .no .no .no x13 .no .no .no .no .no) s = some (.next σ2, s) ∧ keepF [1, 3, 4, 13, 18] 0 σ2 = E15 .no x3 x4 .no .no .no .no .no .no .no .no x13 .no .no .no .no .no := by
  have hb : ∀ w ∈ lots, w.length ≤ 1000 := fun w h => by have := (P.lot w h).len; omega
  have pl := P.len
  have nd : lots.Nodup := List.nodup_iff_pairwise_ne.mpr (P.asc.imp fun {a b} q e => by subst e; exact List.lt_irrefl _ q)
  obtain ⟨b, cb⟩ := cop_sys hb
  have e1 := lawpaper_gen (m := (m : Int)) P.ne (by omega) hb 10 s
  have e2 := syspaper_gen (m := (m : Int)) P.ne (by omega) hb nd 10 s
  have e3 : Gives "is_system" false (callN Γ 12) [prD m lots] s (.bool b) s := gv (call_def rfl rfl rfl rfl (exs_retv (r_and_t (r_callv (r_es1 (r_var rfl)) (lots_form_ok 8 m lots s ⟨hm1, by omega⟩ P.ne (by omega) P.lot P.asc) rfl rfl) (r_cmp (r_callv (r_es1 (r_var rfl)) (syspaper_gen (m := (m : Int)) P.ne (by omega) hb nd 9 s) rfl rfl) (r_tup (r_es1 (r_str _)) (show 1 ≤ lim by decide)) cb))))
  have sm := sh_mem hm P.lot (by omega)
  have sp := sh_paper hm P.ne P.lot b
  have t0 : exec (callN Γ 12) fuelW pB0 (E15 .no x3 x4 .no .no .no .no (.frz (prD m lots)) .no .no .no x13 .no .no .no .no .no) s = some (.next (E15 .no x3 x4 .no .no .no .no (.frz (prD m lots)) .no .no .no x13 .no (.frz (paperS lots)) (.frz (.str (prD m lots).shown)) .no .no), s) :=
    q_assigns (r_es (r_repr (r_var rfl) (repr_ok sm)) (r_es1 (r_callv (r_es1 (r_var rfl)) e1 rfl rfl))) rfl
  have t1 : exec (callN Γ 12) fuelW pB1 (E15 .no x3 x4 .no .no .no .no (.frz (prD m lots)) .no .no .no x13 .no (.frz (paperS lots)) (.frz (.str (prD m lots).shown)) .no .no) s = some (.next (E15 .no x3 x4 .no .no .no .no (.frz (prD m lots)) .no .no .no x13 .no (.frz (paperS lots)) (.frz (.str (prD m lots).shown)) .no .no), s) :=
    q_no (r_or_ff (r_cmp (r_repr (r_lst (r_es (r_callv (r_es1 (r_var rfl)) e2 rfl rfl) (r_es1 (r_callv (r_es1 (r_var rfl)) e3 rfl rfl))) (show 2 ≤ lim by decide)) (repr_ok sp)) (r_repr (r_lst (r_es (r_var rfl) (r_es1 (r_cmp (r_var rfl) (r_tup (r_es1 (r_str _)) (show 1 ≤ lim by decide)) cb))) (show 2 ≤ lim by decide)) (repr_ok sp)) (ne_shown sp)) rfl (r_cmp (r_repr (r_var rfl) (repr_ok sm)) (r_var rfl) (ne_shown sm))) rfl
  exact ⟨_, exs_step t0 (exs_step t1 exs_nil), rfl⟩
theorem val_run {v : D} (V : SameV v) (s : Src) : ∃ σ2, execs (callN Γ 12) fuelW vB (E15 .no .no .no .no .no .no .no .no .no .no (.frz v) .no .no .no .no .no .no) s = some (.next σ2, s) ∧ keepF [1, 18] 0 σ2 = E15 .no .no .no .no .no .no .no .no .no .no .no .no .no .no .no .no .no := by
  obtain ⟨b, e1, h⟩ := V.j 7 s
  have sv := V.sh
  have sb := sh_bool b
  obtain ⟨f, ef, t1⟩ : ∃ f : Bool, Gives "_law_is_form" false (callN Γ 12) [v] s (.bool f) s ∧ exec (callN Γ 12) fuelW vB1 (E15 .no .no .no .no .no .no .no .no .no .no (.frz v) .no .no (.frz (.bool f)) .no (.frz (.str v.shown)) .no) s = some (.next (E15 .no .no .no .no .no .no .no .no .no .no (.frz v) .no .no (.frz (.bool b)) .no (.frz (.str v.shown)) .no), s) := by
    rcases h with ⟨rfl, e2⟩ | ⟨e2, p, e3, e4⟩
    · exact ⟨false, e2, q_assign (r_and_f (r_var rfl)) rfl⟩
    · exact ⟨true, e2, q_assign (r_and_t (r_var rfl) (r_cmp (r_callv (r_es1 (r_var rfl)) e3 rfl rfl) (r_tup (r_es1 (r_str _)) (show 1 ≤ lim by decide)) e4)) rfl⟩
  have t0 : exec (callN Γ 12) fuelW vB0 (E15 .no .no .no .no .no .no .no .no .no .no (.frz v) .no .no .no .no .no .no) s = some (.next (E15 .no .no .no .no .no .no .no .no .no .no (.frz v) .no .no (.frz (.bool f)) .no (.frz (.str v.shown)) .no), s) :=
    q_assigns (r_es (r_repr (r_var rfl) (repr_ok sv)) (r_es1 (r_callv (r_es1 (r_var rfl)) ef rfl rfl))) rfl
  have t2 : exec (callN Γ 12) fuelW vB2 (E15 .no .no .no .no .no .no .no .no .no .no (.frz v) .no .no (.frz (.bool b)) .no (.frz (.str v.shown)) .no) s = some (.next (E15 .no .no .no .no .no .no .no .no .no .no (.frz v) .no .no (.frz (.bool b)) .no (.frz (.str v.shown)) .no), s) :=
    q_no (r_or_ff (r_cmp (r_repr (r_callv (r_es1 (r_var rfl)) e1 rfl rfl) (repr_ok sb)) (r_repr (r_var rfl) (repr_ok sb)) (ne_shown sb)) rfl (r_cmp (r_repr (r_var rfl) (repr_ok sv)) (r_var rfl) (ne_shown sv))) rfl
  exact ⟨_, exs_step t0 (exs_step t1 (exs_step t2 exs_nil)), rfl⟩
theorem draw_pair (m : Nat) (hm : m ≤ 7) (x2 x4 : Slot) (s : Src) : ∃ (ws : List (List Int)) (s' : Src), exec (callN Γ 12) fuelW gS4 (E15 x2 (.frz (.int m)) x4 (.frz (waysD (sortR (lotsAll m)))) .no .no .no .no .no .no .no .no .no .no .no .no .no) s = some (.next (E15 x2 (.frz (.int m)) x4 (.frz (waysD (sortR (lotsAll m)))) (.frz (.tuple ((sortR (kputs [] ws)).map rowD))) .no .no .no .no .no .no .no .no .no .no .no .no), s') ∧ ws ≠ [] ∧ ∀ w ∈ ws, LotIn m w := by
  have la : (sortR (lotsAll m)).length ≤ 128 := by
    rw [(sortR_perm _).length_eq, lotsAll_len]
    exact Nat.pow_le_pow_right (n := 2) (by omega) hm
  have l1 : 0 < (sortR (lotsAll m)).length := by
    rw [(sortR_perm _).length_eq, lotsAll_len]
    exact Nat.pow_pos (by omega)
  obtain ⟨z, s1, e1, z0, z1⟩ := pick_call 11 s 5 (by omega) (by omega)
  obtain ⟨z, rfl⟩ := Int.eq_ofNat_of_zero_le z0
  have em : (1 : Int) + (z : Nat) = ((1 + z : Nat) : Int) := by omega
  obtain ⟨xs, s', e, ws, rfl, h1, h2⟩ := r_comp_inv (call := callN Γ 12) (b := true) (σ := E15 x2 (.frz (.int m)) x4 (.frz (waysD (sortR (lotsAll m)))) .no .no .no .no .no .no .no .no .no .no .no .no .no) (s := s) (s1 := s1) (elt := .tup (.cons (.call "_law_of" (.some 1) (.cons (.var 5) .nil)) (.cons (.int 0) .nil))) (t := .name 13) (it := .range1 (.bin .add (.int 1) (.call "_law_pick" (.some 1) (.cons (.int 5) .nil)))) (own := [13]) (ds := (upto (1 + z)).map .int)
    (fun j acc _ => ∃ ws : List (List Int), acc = ws.map (fun w => .tuple [rowD w, .int 0]) ∧ ws.length = j ∧ ∀ w ∈ ws, LotIn m w) (rg_m (by omega) (by rw [← em]; exact r_bin (r_int 1) (r_callv (r_es1 (r_int 5)) (gv e1) rfl rfl) rfl)) ⟨[], rfl, rfl, fun w h => absurd h (by simp)⟩ (by
      rintro j d acc s hj ⟨ws, rfl, h1, h2⟩
      have jl := (List.getElem?_eq_some_iff.mp hj).1
      rw [List.length_map, upto_len] at jl
      obtain ⟨o, s2, e2, ho⟩ := of_ok 10 ((sortR (lotsAll m)).map rowD) _ rfl s (by rw [List.length_map]; omega) (by rw [List.length_map]; omega)
      obtain ⟨w, hw, rfl⟩ := List.mem_map.mp ho
      refine ⟨by rw [List.length_map]; unfold lim; omega, E15 x2 (.frz (.int m)) x4 (.frz (waysD (sortR (lotsAll m)))) .no .no .no .no .no .no .no (.frz d) .no .no .no .no .no, .tuple [rowD w, .int 0], s2, rfl, r_tup (r_es (r_callv (r_es1 (r_var rfl)) (gv e2) rfl rfl) (r_es1 (r_int 0))) (show 2 ≤ lim by decide), ws ++ [w], by rw [List.map_append]; rfl, by rw [List.length_append, h1]; rfl, fun v hv => ?_⟩
      rcases List.mem_append.mp hv with hv | hv
      · exact h2 v hv
      · rw [List.mem_singleton.mp hv]
        exact mem_lotsAll.mp ((sortR_perm _).mem_iff.mp hw))
  rw [List.length_map, upto_len] at h1
  have k0 : KO m [] := ⟨List.nodup_nil, fun w h => absurd h (by simp)⟩
  have kl := (k0.puts h2).len hm
  exact ⟨ws, s', q_assign (r_bf1t (r_bf1t (r_bf1t e (bf_dict_rows ws (by unfold lim; omega)) rfl) (bf_sorted_ks _ (by unfold lim; omega)) rfl) (bf_tuple_ways _) rfl) rfl, fun e => by rw [e] at h1; simp at h1; omega, h2⟩
theorem lap15 (d : D) (s : Src) (hd : ∃ a : Nat, itemAt (.list [.int 3, .int 4, .int 5, .int 5]) d = some (.int a) ∧ 1 ≤ a ∧ a ≤ 5) :
    ∃ σ2 s', execs (callN Γ 12) fuelW gAll (E15 (.frz d) .no .no .no .no .no .no .no .no .no .no .no .no .no .no .no .no) s = some (.next σ2, s') ∧ keepF [1, 18] 0 σ2 = E15 .no .no .no .no .no .no .no .no .no .no .no .no .no .no .no .no .no := by
  obtain ⟨a, ia, a0, a1⟩ := hd
  obtain ⟨z, s1, e1, z0, z1⟩ := pick_call 11 s (a : Int) (by omega) (by omega)
  obtain ⟨z, rfl⟩ := Int.eq_ofNat_of_zero_le z0
  have em : (1 : Int) + (z : Nat) = ((1 + z : Nat) : Int) := by omega
  have hm1 : 1 ≤ 1 + z := by omega
  have hm : 1 + z ≤ 7 := by omega
  have t0 : exec (callN Γ 12) fuelW gS0 (E15 (.frz d) .no .no .no .no .no .no .no .no .no .no .no .no .no .no .no .no) s = some (.next (E15 (.frz d) (.frz (.int ((1 + z : Nat) : Int))) .no .no .no .no .no .no .no .no .no .no .no .no .no .no .no), s1) := by
    rw [← em]
    exact q_assign (r_bin (r_int 1) (r_callv (r_es1 (r_idx (r_lst (r_es (r_int 3) (r_es (r_int 4) (r_es (r_int 5) (r_es1 (r_int 5))))) (show 4 ≤ lim by decide)) (r_var rfl) ia)) (gv e1) rfl rfl) rfl) rfl
  revert t0 hm1 hm
  generalize 1 + z = m
  intro hm1 hm t0
  obtain ⟨bs, r, Ind, s2, e2, D⟩ := lawsystem_ok 8 m s1 hm
  have el := lawlots_ok 11 m s2 (by omega)
  have bl := D.len
  have b0 := D.sys.ne
  have la : (sortR (lotsAll m)).length ≤ 128 := by
    rw [(sortR_perm _).length_eq, lotsAll_len]
    exact Nat.pow_le_pow_right (n := 2) (by omega) hm
  have l1 : 0 < (sortR (lotsAll m)).length := by
    rw [(sortR_perm _).length_eq, lotsAll_len]
    exact Nat.pow_pos (by omega)
  have e3 := issystem_ok 8 m r bs s2 ⟨hm1, by omega⟩ b0 (by omega) D.lot D.asc (fun w hw => ((D.sys.mem w).mp hw).2.2) (fun one h1 other h2 x ha hn => D.sys.exch h1 h2 ha hn)
  have e4 := system_paper_ok 10 m r bs s2 (by omega) b0 (by omega) D.lot D.nd (fun w hw => ((D.sys.mem w).mp hw).2.2) (fun one h1 other h2 x ha hn => D.sys.exch h1 h2 ha hn)
  have t1 : exec (callN Γ 12) fuelW gS1 (E15 (.frz d) (.frz (.int m)) .no .no .no .no .no .no .no .no .no .no .no .no .no .no .no) s1 = some (.next (E15 (.frz d) (.frz (.int m)) (.frz (memD m bs)) .no .no .no .no .no .no .no .no .no .no .no .no .no .no), s2) := q_assign (r_callv (r_es1 (r_var rfl)) e2 rfl rfl) rfl
  have t2 : exec (callN Γ 12) fuelW gS2 (E15 (.frz d) (.frz (.int m)) (.frz (memD m bs)) .no .no .no .no .no .no .no .no .no .no .no .no .no .no) s2 = some (.next (E15 (.frz d) (.frz (.int m)) (.frz (memD m bs)) .no .no .no .no .no .no .no .no .no .no .no .no .no .no), s2) :=
    q_no (r_or_ff (r_notB (r_callv (r_es1 (r_var rfl)) e3 rfl rfl)) rfl (r_cmp (r_callv (r_es1 (r_var rfl)) e4 rfl rfl) (r_tup (r_es1 (r_str _)) (show 1 ≤ lim by decide)) (by decide +kernel : cop .ne (.tuple [.str (sN "system")]) (.tuple [.str (sN "system")]) = some false))) rfl
  have t3 : exec (callN Γ 12) fuelW gS3 (E15 (.frz d) (.frz (.int m)) (.frz (memD m bs)) .no .no .no .no .no .no .no .no .no .no .no .no .no .no) s2 = some (.next (E15 (.frz d) (.frz (.int m)) (.frz (memD m bs)) (.frz (waysD (sortR (lotsAll m)))) .no .no .no .no .no .no .no .no .no .no .no .no .no), s2) := q_assign (r_callv (r_es1 (r_var rfl)) el rfl rfl) rfl
  obtain ⟨ws, s3, t4, w0, hw⟩ := draw_pair m hm (.frz d) (.frz (memD m bs)) s2
  have P1 := pr_sorted hm w0 hw
  obtain ⟨k, s4, e5, k0, k1⟩ := pick_call 11 s3 (bs.length : Nat) (by have := List.length_pos_iff.mpr b0; omega) (by omega)
  obtain ⟨k, rfl⟩ := Int.eq_ofNat_of_zero_le k0
  obtain ⟨o5, s5, e6, ho5⟩ := of_ok 10 ((sortR (lotsAll m)).map rowD) _ rfl s4 (by rw [List.length_map]; omega) (by rw [List.length_map]; omega)
  obtain ⟨more, hmore, rfl⟩ := List.mem_map.mp ho5
  have lmore : LotIn m more := mem_lotsAll.mp ((sortR_perm _).mem_iff.mp hmore)
  have P2 : PrOk m (sortR (kputs [] (bs ++ [more]))) := pr_sorted hm (by simp) fun w hx => (List.mem_append.mp hx).elim (D.lot w) fun h => by rw [List.mem_singleton.mp h]; exact lmore
  have lnb : bf .len [.tuple (bs.map rowD)] = some (.int (bs.length : Nat)) := by
    show some (PyData.int ((bs.map rowD).length : Nat)) = _
    rw [List.length_map]
  obtain ⟨T1, eT1⟩ : ∃ T1, T1 = sortR (kputs [] ws) := ⟨_, rfl⟩
  rw [← eT1] at t4 P1
  have t5 : exec (callN Γ 12) fuelW gS5 (E15 (.frz d) (.frz (.int m)) (.frz (memD m bs)) (.frz (waysD (sortR (lotsAll m)))) (.frz (.tuple (T1.map rowD))) .no .no .no .no .no .no .no .no .no .no .no .no) s3 = some (.next (E15 (.frz d) (.frz (.int m)) (.frz (memD m bs)) (.frz (waysD (sortR (lotsAll m)))) (.frz (.tuple (T1.map rowD))) .no .no .no .no .no .no (.frz (.int (k : Nat))) (.frz (rowD more)) .no .no .no .no), s5) :=
    q_assigns (r_es (r_callv (r_es1 (r_bf1t (r_idx (r_var rfl) (r_int 1) rfl) lnb rfl)) (gv e5) rfl rfl) (r_es1 (r_callv (r_es1 (r_var rfl)) (gv e6) rfl rfl))) rfl
  obtain ⟨less, eless⟩ : ∃ less, less = bs.take k ++ bs.drop (k + 1) := ⟨_, rfl⟩
  have lessub : ∀ w ∈ less, w ∈ bs := fun w hx => by
    rw [eless] at hx
    exact (List.mem_append.mp hx).elim List.mem_of_mem_take List.mem_of_mem_drop
  have lessl : less.length ≤ 200 := by
    rw [eless, List.length_append, List.length_take, List.length_drop]
    omega
  have lessasc : less.Pairwise (· < ·) := by
    rw [eless]
    have : (bs.take k ++ bs.drop (k + 1)).Sublist bs := by
      conv => rhs; rw [← List.take_append_drop k bs]
      exact List.Sublist.append_left (by rw [← List.drop_drop]; exact List.drop_sublist _ _) _
    exact D.asc.sublist this
  have t6 : exec (callN Γ 12) fuelW gS6 (E15 (.frz d) (.frz (.int m)) (.frz (memD m bs)) (.frz (waysD (sortR (lotsAll m)))) (.frz (.tuple (T1.map rowD))) .no .no .no .no .no .no (.frz (.int (k : Nat))) (.frz (rowD more)) .no .no .no .no) s5 = some (.next (E15 (.frz d) (.frz (.int m)) (.frz (memD m bs)) (.frz (waysD (sortR (lotsAll m)))) (.frz (.tuple (T1.map rowD))) (.frz (.tuple (less.map rowD))) .no .no .no .no .no (.frz (.int (k : Nat))) (.frz (rowD more)) .no .no .no .no), s5) := by
    rw [eless, List.map_append]
    exact q_assign (r_bin (r_slice (l := none) (h := some (k : Int)) (r_idx (r_var rfl) (r_int 1) rfl) r_cut0 (r_cut (r_var rfl)) (sl_take bs k)) (r_slice (l := some ((k : Int) + 1)) (h := none) (r_idx (r_var rfl) (r_int 1) rfl) (r_cut (r_bin (r_var rfl) (r_int 1) rfl)) r_cut0 (sl_drop bs k)) (bop_add_T _ _ (by rw [List.length_map, List.length_map, List.length_take, List.length_drop]; unfold lim; omega))) rfl
  have kl2 : (kputs [] (bs ++ [more])).length ≤ 200 := by
    have := P2.len
    rw [(sortR_perm _).length_eq] at this
    exact this
  obtain ⟨T2, eT2⟩ : ∃ T2, T2 = sortR (kputs [] (bs ++ [more])) := ⟨_, rfl⟩
  rw [← eT2] at P2
  have c7 : ev (callN Γ 12) true (.comp (.tup (.cons (.var 18) (.cons (.int 0) .nil))) (.name 18) (.over (.bin .add (.idx (.var 4) (.int 1)) (.tup (.cons (.var 14) .nil)))) (.bool true) [18]) (E15 (.frz d) (.frz (.int m)) (.frz (memD m bs)) (.frz (waysD (sortR (lotsAll m)))) (.frz (.tuple (T1.map rowD))) (.frz (.tuple (less.map rowD))) .no .no .no .no .no (.frz (.int (k : Nat))) (.frz (rowD more)) .no .no .no .no) s5 = some (.list ((bs ++ [more]).map fun x => .tuple [rowD x, .int 0]), s5) :=
    r_comp1 rowD (fun x => .tuple [rowD x, .int 0]) (bs ++ [more]) (r_overT ((r_bin (r_idx (r_var rfl) (r_int 1) rfl) (r_tup (r_es1 (r_var rfl)) (show 1 ≤ lim by decide)) (bop_add_T (bs.map rowD) [rowD more] (by rw [List.length_map, List.length_singleton]; unfold lim; omega))).trans (by rw [List.map_append]; rfl))) (by rw [List.length_append, List.length_singleton]; unfold lim; omega) fun w hx s => ⟨E15 (.frz d) (.frz (.int m)) (.frz (memD m bs)) (.frz (waysD (sortR (lotsAll m)))) (.frz (.tuple (T1.map rowD))) (.frz (.tuple (less.map rowD))) .no .no .no .no .no (.frz (.int (k : Nat))) (.frz (rowD more)) .no .no .no (.frz (rowD w)), rfl, r_tup (r_es (r_var rfl) (r_es1 (r_int 0))) (show 2 ≤ lim by decide)⟩
  have t7 : exec (callN Γ 12) fuelW gS7 (E15 (.frz d) (.frz (.int m)) (.frz (memD m bs)) (.frz (waysD (sortR (lotsAll m)))) (.frz (.tuple (T1.map rowD))) (.frz (.tuple (less.map rowD))) .no .no .no .no .no (.frz (.int (k : Nat))) (.frz (rowD more)) .no .no .no .no) s5 = some (.next (E15 (.frz d) (.frz (.int m)) (.frz (memD m bs)) (.frz (waysD (sortR (lotsAll m)))) (.frz (.tuple (T1.map rowD))) (.frz (.tuple (less.map rowD))) (.frz (.list [prD m T1, prD m T2])) .no .no .no .no (.frz (.int (k : Nat))) (.frz (rowD more)) .no .no .no .no), s5) := by
    rw [eT2]
    exact q_assign (r_lst (r_es (r_tup (r_es (r_var rfl) (r_es1 (r_var rfl))) (show 2 ≤ lim by decide)) (r_es1 (r_tup (r_es (r_var rfl) (r_es1 (r_bf1t (r_bf1t (r_bf1t c7 (bf_dict_rows _ (by rw [List.length_append, List.length_singleton]; unfold lim; omega)) rfl) (bf_sorted_ks _ (by unfold lim; omega)) rfl) (bf_tuple_ways _) rfl))) (show 2 ≤ lim by decide)))) (show 2 ≤ lim by decide)) rfl
  obtain ⟨PL, ePL, hPL⟩ : ∃ PL : List (List (List Int)), exec (callN Γ 12) fuelW gS8 (E15 (.frz d) (.frz (.int m)) (.frz (memD m bs)) (.frz (waysD (sortR (lotsAll m)))) (.frz (.tuple (T1.map rowD))) (.frz (.tuple (less.map rowD))) (.frz (.list [prD m T1, prD m T2])) .no .no .no .no (.frz (.int (k : Nat))) (.frz (rowD more)) .no .no .no .no) s5 = some (.next (E15 (.frz d) (.frz (.int m)) (.frz (memD m bs)) (.frz (waysD (sortR (lotsAll m)))) (.frz (.tuple (T1.map rowD))) (.frz (.tuple (less.map rowD))) (.frz (.list (PL.map (prD m)))) .no .no .no .no (.frz (.int (k : Nat))) (.frz (rowD more)) .no .no .no .no), s5) ∧ ∀ p ∈ PL, PrOk m p := by
    have ci : ∀ (b : Bool) (j : Int), bf .int [.bool b] = some (.int j) → (!decide (less = [])) = b → ev (callN Γ 12) true (.bf .int (.cons (.cmp .ne (.var 7) (.tup .nil)) .nil)) (E15 (.frz d) (.frz (.int m)) (.frz (memD m bs)) (.frz (waysD (sortR (lotsAll m)))) (.frz (.tuple (T1.map rowD))) (.frz (.tuple (less.map rowD))) (.frz (.list [prD m T1, prD m T2])) .no .no .no .no (.frz (.int (k : Nat))) (.frz (rowD more)) .no .no .no .no) s5 = some (.int j, s5) := fun b j hj hb => r_bf1t ((r_cmp (r_var rfl) (r_tup r_es0 (Nat.zero_le _)) (cop_ne_tups less [])).trans (by rw [hb])) hj rfl
    by_cases q : less = []
    · exact ⟨[T1, T2], q_assign (r_bin (r_var rfl) (r_bin (r_lst (r_es1 (r_tup (r_es (r_var rfl) (r_es1 (r_var rfl))) (show 2 ≤ lim by decide))) (show 1 ≤ lim by decide)) (ci false 0 rfl (by rw [decide_eq_true q]; rfl)) (mul0 _)) (bop_add_L [prD m T1, prD m T2] [] (show 2 + 0 ≤ lim by decide))) rfl, fun p hp => by
        simp only [List.mem_cons, List.not_mem_nil, or_false] at hp
        rcases hp with rfl | rfl
        · exact P1
        · exact P2⟩
    · exact ⟨[T1, T2, less], q_assign (r_bin (r_var rfl) (r_bin (r_lst (r_es1 (r_tup (r_es (r_var rfl) (r_es1 (r_var rfl))) (show 2 ≤ lim by decide))) (show 1 ≤ lim by decide)) (ci true 1 rfl (by rw [decide_eq_false q]; rfl)) (mul1 _)) (bop_add_L [prD m T1, prD m T2] [prD m less] (show 2 + 1 ≤ lim by decide))) rfl, fun p hp => by
        simp only [List.mem_cons, List.not_mem_nil, or_false] at hp
        rcases hp with rfl | rfl | rfl
        · exact P1
        · exact P2
        · exact ⟨q, lessl, fun w hx => D.lot w (lessub w hx), lessasc⟩⟩
  obtain ⟨σ9, t9, rfl⟩ := exs_forI (call := callN Γ 12) (fuel := fuelW) (t := .name 9) (it := .over (.var 8)) (keep := [1, 3, 4, 13, 18]) (body := pB) (σ := E15 (.frz d) (.frz (.int m)) (.frz (memD m bs)) (.frz (waysD (sortR (lotsAll m)))) (.frz (.tuple (T1.map rowD))) (.frz (.tuple (less.map rowD))) (.frz (.list (PL.map (prD m)))) .no .no .no .no (.frz (.int (k : Nat))) (.frz (rowD more)) .no .no .no .no) (s := s5) (s1 := s5) (prD m) PL
    (fun _ σ => σ = E15 .no (.frz (.int m)) (.frz (memD m bs)) .no .no .no .no .no .no .no .no (.frz (.int (k : Nat))) .no .no .no .no .no) rfl (r_over (r_var rfl)) rfl (by
      rintro j p σ hj rfl
      obtain ⟨σ2, z1, z2⟩ := pair_run hm1 hm (hPL p (List.mem_of_getElem? hj)) (.frz (memD m bs)) (.frz (.int (k : Nat))) (.frz (.int m)) s5
      exact ⟨_, σ2, rfl, z1, z2⟩)
  obtain ⟨o, s6, e10, ho⟩ := of_ok 10 [PyData.none, .bool true, .int 0, .tuple [], .tuple [.int 0, .int 0], .tuple [.int (m : Int)], .list [.int 0], .str (sN "0"), .tuple [.tuple [.int 0]]] _ rfl s5 (by simp) (by simp)
  have O := odd_of hm1 hm ho
  have t10 : exec (callN Γ 12) fuelW gS10 (E15 .no (.frz (.int m)) (.frz (memD m bs)) .no .no .no .no .no .no .no .no (.frz (.int (k : Nat))) .no .no .no .no .no) s5 = some (.next (E15 .no (.frz (.int m)) (.frz (memD m bs)) .no .no .no .no .no (.frz o) .no .no (.frz (.int (k : Nat))) .no .no .no .no .no), s6) :=
    q_assign (r_callv (r_es1 (r_lst (r_es r_none (r_es (r_bool true) (r_es (r_int 0) (r_es (r_tup r_es0 (Nat.zero_le _)) (r_es (r_tup (r_es (r_int 0) (r_es1 (r_int 0))) (show 2 ≤ lim by decide)) (r_es (r_tup (r_es1 (r_var rfl)) (show 1 ≤ lim by decide)) (r_es (r_lst (r_es1 (r_int 0)) (show 1 ≤ lim by decide)) (r_es (r_str _) (r_es1 (r_tup (r_es1 (r_tup (r_es1 (r_int 0)) (show 1 ≤ lim by decide))) (show 1 ≤ lim by decide))))))))))) (show 9 ≤ lim by decide))) (gv e10) rfl rfl) rfl
  have V := all_vals hm1 hm b0 (by omega) D.lot O k
  obtain ⟨A1, eA1⟩ : ∃ A1 : List PyData, A1 = [prD m bs, .list [.int m, .tuple (bs.map rowD)], .tuple [.int m, .list (bs.map rowD)], .tuple [.int m, .tuple []], .tuple [.int 0, .tuple [.tuple []]], .tuple [.int 1, .tuple [.tuple []]], .tuple [.int m, .tuple (bs.map rowD).reverse]] := ⟨_, rfl⟩
  obtain ⟨A2, eA2⟩ : ∃ A2 : List PyData, A2 = [.tuple [.int ((m : Int) - 1), .tuple (bs.map rowD)], .tuple [.int ((m : Int) + 1), .tuple (bs.map rowD)], .tuple [o, .tuple (bs.map rowD)], .tuple [.int m, o], .tuple [.int m, .tuple (bs.map rowD), .int 0], .tuple [.int m]] := ⟨_, rfl⟩
  have t11 : exec (callN Γ 12) fuelW gS11 (E15 .no (.frz (.int m)) (.frz (memD m bs)) .no .no .no .no .no (.frz o) .no .no (.frz (.int (k : Nat))) .no .no .no .no .no) s6 = some (.next (E15 .no (.frz (.int m)) (.frz (memD m bs)) .no .no .no .no .no (.frz o) (.own (.list A1)) .no (.frz (.int (k : Nat))) .no .no .no .no .no), s6) := by
    rw [eA1]
    exact q_assign (r_lst (r_es (r_var rfl) (r_es (r_bf1t (r_var rfl) (rfl : bf .list [memD m bs] = some (.list [.int m, .tuple (bs.map rowD)])) rfl) (r_es (r_tup (r_es (r_var rfl) (r_es1 (r_bf1t (r_idx (r_var rfl) (r_int 1) rfl) (rfl : bf .list [.tuple (bs.map rowD)] = some (.list (bs.map rowD))) rfl))) (show 2 ≤ lim by decide)) (r_es (r_tup (r_es (r_var rfl) (r_es1 (r_tup r_es0 (Nat.zero_le _)))) (show 2 ≤ lim by decide)) (r_es (r_tup (r_es (r_int 0) (r_es1 (r_tup (r_es1 (r_tup r_es0 (Nat.zero_le _))) (show 1 ≤ lim by decide)))) (show 2 ≤ lim by decide)) (r_es (r_tup (r_es (r_int 1) (r_es1 (r_tup (r_es1 (r_tup r_es0 (Nat.zero_le _))) (show 1 ≤ lim by decide)))) (show 2 ≤ lim by decide)) (r_es1 (r_tup (r_es (r_var rfl) (r_es1 (r_rev (r_idx (r_var rfl) (r_int 1) rfl) rfl))) (show 2 ≤ lim by decide))))))))) (show 7 ≤ lim by decide)) rfl
  have t12 : exec (callN Γ 12) fuelW gS12 (E15 .no (.frz (.int m)) (.frz (memD m bs)) .no .no .no .no .no (.frz o) (.own (.list A1)) .no (.frz (.int (k : Nat))) .no .no .no .no .no) s6 = some (.next (E15 .no (.frz (.int m)) (.frz (memD m bs)) .no .no .no .no .no (.frz o) (.own (.list (A1 ++ A2))) .no (.frz (.int (k : Nat))) .no .no .no .no .no), s6) := by
    have l1 : A1.length = 7 := by rw [eA1]; rfl
    have l2 : A2.length = 6 := by rw [eA2]; rfl
    refine q_assign (r_bin (r_var rfl) (r_lst (ds := A2) ?_ (by rw [l2]; decide)) (bop_add_L A1 A2 (by rw [l1, l2]; decide))) rfl
    rw [eA2]
    exact (r_es (r_tup (r_es (r_bin (r_var rfl) (r_int 1) rfl) (r_es1 (r_idx (r_var rfl) (r_int 1) rfl))) (show 2 ≤ lim by decide)) (r_es (r_tup (r_es (r_bin (r_var rfl) (r_int 1) rfl) (r_es1 (r_idx (r_var rfl) (r_int 1) rfl))) (show 2 ≤ lim by decide)) (r_es (r_tup (r_es (r_var rfl) (r_es1 (r_idx (r_var rfl) (r_int 1) rfl))) (show 2 ≤ lim by decide)) (r_es (r_tup (r_es (r_var rfl) (r_es1 (r_var rfl))) (show 2 ≤ lim by decide)) (r_es (r_bin (r_var rfl) (r_tup (r_es1 (r_int 0)) (show 1 ≤ lim by decide)) (bop_add_T [.int m, .tuple (bs.map rowD)] [.int 0] (show 2 + 1 ≤ lim by decide))) (r_es1 (r_tup (r_es1 (r_var rfl)) (show 1 ≤ lim by decide))))))))
  have t13 : exec (callN Γ 12) fuelW gS13 (E15 .no (.frz (.int m)) (.frz (memD m bs)) .no .no .no .no .no (.frz o) (.own (.list (A1 ++ A2))) .no (.frz (.int (k : Nat))) .no .no .no .no .no) s6 = some (.next (E15 .no (.frz (.int m)) (.frz (memD m bs)) .no .no .no .no .no (.frz o) (.own (.list ((A1 ++ A2) ++ [o, .none]))) .no (.frz (.int (k : Nat))) .no .no .no .no .no), s6) := by
    have l1 : A1.length = 7 := by rw [eA1]; rfl
    have l2 : A2.length = 6 := by rw [eA2]; rfl
    exact q_assign (r_bin (r_var rfl) (r_lst (r_es (r_var rfl) (r_es1 r_none)) (show 2 ≤ lim by decide)) (bop_add_L (A1 ++ A2) [o, .none] (by rw [List.length_append, l1, l2]; show 7 + 6 + 2 ≤ lim; decide))) rfl
  have t14 : exec (callN Γ 12) fuelW gS14 (E15 .no (.frz (.int m)) (.frz (memD m bs)) .no .no .no .no .no (.frz o) (.own (.list ((A1 ++ A2) ++ [o, .none]))) .no (.frz (.int (k : Nat))) .no .no .no .no .no) s6 = some (.next (E15 .no (.frz (.int m)) (.frz (memD m bs)) .no .no .no .no .no (.frz o) (.own (.list (((A1 ++ A2) ++ [o, .none]) ++ [.tuple [.int m, .tuple ((bs.take k).map rowD ++ [o] ++ (bs.drop (k + 1)).map rowD)]]))) .no (.frz (.int (k : Nat))) .no .no .no .no .no), s6) := by
    have l1 : A1.length = 7 := by rw [eA1]; rfl
    have l2 : A2.length = 6 := by rw [eA2]; rfl
    exact q_append (x := 11) (r_tup (r_es (r_var rfl) (r_es1 (r_bin (r_bin (r_slice (l := none) (h := some (k : Int)) (r_idx (r_var rfl) (r_int 1) rfl) r_cut0 (r_cut (r_var rfl)) (sl_take bs k)) (r_tup (r_es1 (r_var rfl)) (show 1 ≤ lim by decide)) (bop_add_T _ [o] (by rw [List.length_map, List.length_take, List.length_singleton]; unfold lim; omega))) (r_slice (l := some ((k : Int) + 1)) (h := none) (r_idx (r_var rfl) (r_int 1) rfl) (r_cut (r_bin (r_var rfl) (r_int 1) rfl)) r_cut0 (sl_drop bs k)) (bop_add_T _ _ (by rw [List.length_append, List.length_map, List.length_map, List.length_take, List.length_drop, List.length_singleton]; unfold lim; omega))))) (show 2 ≤ lim by decide)) rfl (by rw [List.length_append, List.length_append, l1, l2]; show 7 + 6 + 2 < lim; decide)
  rw [← eA1, ← eA2] at V
  generalize ((A1 ++ A2) ++ [o, PyData.none]) ++ [PyData.tuple [.int m, .tuple ((bs.take k).map rowD ++ [o] ++ (bs.drop (k + 1)).map rowD)]] = vals at t14 V
  obtain ⟨σ16, t16, rfl⟩ := exs_forI (call := callN Γ 12) (fuel := fuelW) (t := .name 12) (it := .over (.var 11)) (keep := [1, 18]) (body := vB) (σ := E15 .no (.frz (.int m)) (.frz (memD m bs)) .no .no .no .no .no (.frz o) (.frz (.list vals)) .no (.frz (.int (k : Nat))) .no .no .no .no .no) (s := s6) (s1 := s6) id vals
    (fun _ σ => σ = E15 .no .no .no .no .no .no .no .no .no .no .no .no .no .no .no .no .no) rfl ((r_over (r_var rfl)).trans (by rw [List.map_id])) rfl (by
      rintro j v σ hj rfl
      obtain ⟨σ2, z1, z2⟩ := val_run (V v (List.mem_of_getElem? hj)) s6
      exact ⟨_, σ2, rfl, z1, z2⟩)
  exact ⟨_, s6, exs_step t0 (exs_step t1 (exs_step t2 (exs_step t3 (exs_step t4 (exs_step t5 (exs_step t6 (exs_step t7 (exs_step ePL (exs_step t9 (exs_step t10 (exs_step t11 (exs_step t12 (exs_step t13 (exs_step t14 (q_freeze rfl (exs_step t16 exs_nil)))))))))))))))), rfl⟩
theorem item15 {j : Nat} {d : D} (h : (rangeD 0 4)[j]? = some d) : ∃ a : Nat, itemAt (.list [.int 3, .int 4, .int 5, .int 5]) d = some (.int a) ∧ 1 ≤ a ∧ a ≤ 5 := by
  rw [show rangeD 0 4 = (upto 4).map PyData.int from range_upto 4, List.getElem?_map] at h
  obtain ⟨x, hx, rfl⟩ := Option.map_eq_some_iff.mp h
  obtain ⟨rfl, hj⟩ := upto_get hx
  match j, hj with
  | 0, _ => exact ⟨3, rfl, by omega, by omega⟩
  | 1, _ => exact ⟨4, rfl, by omega, by omega⟩
  | 2, _ => exact ⟨5, rfl, by omega, by omega⟩
  | 3, _ => exact ⟨5, rfl, by omega, by omega⟩
theorem goes_none : goesL [[(0 : Int), 1], [2, 3]] [0, 1] [2, 3] 0 = [] := by
  unfold goesL
  refine List.filter_eq_nil_iff.mpr fun b hb => ?_
  have mp : ∀ y, y ∈ putR [0, 1] 0 b ↔ y = 1 ∨ y = b := fun y => by
    unfold putR
    rw [(sortI_perm _).mem_iff]
    simp
  have no : putR [0, 1] 0 b ∉ [[(0 : Int), 1], [2, 3]] := fun h => by
    simp only [List.mem_cons, List.not_mem_nil, or_false] at h hb
    rcases h with h | h
    · have : (0 : Int) ∈ putR [0, 1] 0 b := by rw [h]; simp
      rw [mp] at this
      omega
    · have : (1 : Int) ∈ putR [0, 1] 0 b := (mp 1).mpr (.inl rfl)
      rw [h] at this
      simp at this
  simp [no]
theorem last15 (s : Src) : Gives "system_paper" false (callN Γ 12) [prD 4 [[0, 1], [2, 3]]] s (.tuple [.str (sN "exchange"), rowD [0, 1], rowD [2, 3], .int 0]) s := by
  have e := syspaper_gen (m := 4) (lots := [[0, 1], [2, 3]]) (by simp) (by decide) (by decide) (by decide) 10 s
  have e2 : paperS [[0, 1], [2, 3]] = .tuple [.str (sN "exchange"), rowD [0, 1], rowD [2, 3], .int 0] := by
    have h1 : [[(0 : Int), 1], [2, 3]].findSome? (sizeG [0, 1]) = none := rfl
    have h2 : exO [[(0 : Int), 1], [2, 3]] [0, 1] [0, 1] = none := by
      unfold exO
      rw [show [(0 : Int), 1].filter (fun a => !decide (a ∈ [(0 : Int), 1])) = [] by decide]
      rfl
    have h3 : exO [[(0 : Int), 1], [2, 3]] [0, 1] [2, 3] = some (.tuple [.str (sN "exchange"), rowD [0, 1], rowD [2, 3], .int 0]) := by
      unfold exO
      rw [show [(0 : Int), 1].filter (fun a => !decide (a ∈ [(2 : Int), 3])) = [0, 1] by decide, List.findSome?_cons]
      unfold exG
      rw [if_pos goes_none]
    have h4 : exT [[(0 : Int), 1], [2, 3]] [0, 1] = some (.tuple [.str (sN "exchange"), rowD [0, 1], rowD [2, 3], .int 0]) := by
      unfold exT
      rw [List.findSome?_cons, h2, List.findSome?_cons, h3]
    unfold paperS
    rw [show ([[(0 : Int), 1], [2, 3]] : List (List Int)).headD [] = [0, 1] from rfl, h1, List.findSome?_cons, h4]
    rfl
  rw [e2] at e
  exact e
theorem val : ∀ ns : List Int, ns.length ≤ 63 → ∃ s', execs (callN Γ (11 + 1)) fuelW f_law.body lawEnv (srcOf ns) = some (.ret (.bool true), s') := by
  intro ns _
  obtain ⟨σ1, s1, e1, rfl⟩ := for_execF (call := callN Γ 12) (fuel := fuelW) (t := .name 2) (it := .range1 (.int 4)) (keep := [1, 18]) (body := gAll) (σ := lawEnv) (s := srcOf ns) (s1 := srcOf ns) (ds := rangeD 0 4)
    (fun i σ s1 => σ = E15 .no .no .no .no .no .no .no .no .no .no .no .no .no .no .no .no .no) rfl (r_range1 (r_int 4) rfl) rfl (by
      rintro j d' σ s1 hj rfl
      obtain ⟨σ2, s', e, hk⟩ := lap15 d' s1 (item15 hj)
      exact ⟨_, σ2, s', rfl, e, hk⟩)
  refine ⟨s1, exs_step e1 (exs_ret (q_ret (r_cmp (c := true) (r_callv (r_es1 (d := prD 4 [[0, 1], [2, 3]]) (r_tup (r_es (r_int 4) (r_es1 (r_tup (r_es (r_tup (r_es (r_int 0) (r_es1 (r_int 1))) (show 2 ≤ lim by decide)) (r_es1 (r_tup (r_es (r_int 2) (r_es1 (r_int 3))) (show 2 ≤ lim by decide)))) (show 2 ≤ lim by decide)))) (show 2 ≤ lim by decide))) (last15 s1) rfl rfl) (r_tup (r_es (r_str _) (r_es (r_tup (r_es (r_int 0) (r_es1 (r_int 1))) (show 2 ≤ lim by decide)) (r_es (r_tup (r_es (r_int 2) (r_es1 (r_int 3))) (show 2 ≤ lim by decide)) (r_es1 (r_int 0))))) (show 4 ≤ lim by decide)) (by decide +kernel))))⟩
end Mp

namespace Mp
open PySem L2 PyProof.Rows PySem.W
theorem zero_ok {P : Program} {w : World} {K : PySem.W.Frag} {mg : Str → Option Value} {base : Heap} {f : String} {st : Stmt} {fa : Addr} {fd : FuncData} {ps : List Str} (F : Fun K (sN f) (sN f) st fa fd) (hm : mg (sN f) = some (.ref fa)) (hb : Binds K fd ps []) : DefOk P w K mg base (callN Γ 0) 0 f :=
  ⟨fa, fd, ps, hm, F.kp, ⟨fun vs H Q E h => h.1, fun A outer s H args us vs Q E _ _ _ _ _ h => by
    obtain ⟨_, sw, Mu, b, ws, ds, src, d, src', _, _, _, _, _, hc, _⟩ := h
    cases hc⟩, hb, fun b ds s r h => by cases h⟩
/-! ### all that the top has written -/
theorem txt_mk {K : PySem.W.Frag} {h : Heap} {mg : Str → Option Value} {f : String} {fn : Fn} {st : Stmt} {fa : Addr} {od an : Option Addr} {sl : Array (Option Value)} {oc kV dc pm cd ct : Value} (X : K.In h) (G : h.Ns mainGlobals mg)
    (a1 : PySem.W.nsIn K mainGlobals (sN f) = some (some (.ref fa))) (l1 : K.lookup fa = some ⟨oc, od, .func (PySem.W.fnOf (sN f) (sN f) (defArgs st) (defBody st) (defScope st) .none kV dc pm an cd ct), sl⟩) (c1 : PySem.W.codeIn K cd (sN f) = true) (k1 : PySem.W.keepIn K (.ref fa) = true)
    (hb : ∀ (kV doc pm : Value) (an : Option Addr) (cdv ct : Value) (us : List Value), us.length = ((fn.names.map sN).take fn.arity).length → bindArgs (PySem.W.fnOf (sN f) (sN f) (defArgs st) (defBody st) (defScope st) .none kV doc pm an cdv ct) ⟨us, []⟩ = pure (((fn.names.map sN).take fn.arity).zip us))
    (S : FnScope (fn.names.map sN) ((fn.names.map sN).take fn.arity) (defScope st)) (har : fn.arity ≤ fn.names.length) (hc : chkSs (fn.names.map sN) fs (defScope st) fn.body (defBody st) = true) : Txt K mg fs f fn st :=
  ⟨fa, _, fun_mk l1 c1 k1, PySem.W.mg_of X G a1, (fun_mk l1 c1 k1).binds hb, S, har, hc⟩
theorem sc_is_number_under : FnScope (f_is_number_under.names.map sN) ((f_is_number_under.names.map sN).take f_is_number_under.arity) (defScope (topS 1)) := ⟨rfl, rfl, rfl, by decide +kernel, by decide +kernel, by decide +kernel, by decide +kernel⟩
theorem ck_is_number_under : chkSs (f_is_number_under.names.map sN) fs (defScope (topS 1)) f_is_number_under.body (defBody (topS 1)) = true := by decide +kernel
theorem sc_is_things_lot : FnScope (f_is_things_lot.names.map sN) ((f_is_things_lot.names.map sN).take f_is_things_lot.arity) (defScope (topS 3)) := ⟨rfl, rfl, rfl, by decide +kernel, by decide +kernel, by decide +kernel, by decide +kernel⟩
theorem ck_is_things_lot : chkSs (f_is_things_lot.names.map sN) fs (defScope (topS 3)) f_is_things_lot.body (defBody (topS 3)) = true := by decide +kernel
theorem sc_is_lots_form : FnScope (f_is_lots_form.names.map sN) ((f_is_lots_form.names.map sN).take f_is_lots_form.arity) (defScope (topS 4)) := ⟨rfl, rfl, rfl, by decide +kernel, by decide +kernel, by decide +kernel, by decide +kernel⟩
theorem ck_is_lots_form : chkSs (f_is_lots_form.names.map sN) fs (defScope (topS 4)) f_is_lots_form.body (defBody (topS 4)) = true := by decide +kernel
theorem sc_put_for : FnScope (f_put_for.names.map sN) ((f_put_for.names.map sN).take f_put_for.arity) (defScope (topS 5)) := ⟨rfl, rfl, rfl, by decide +kernel, by decide +kernel, by decide +kernel, by decide +kernel⟩
theorem ck_put_for : chkSs (f_put_for.names.map sN) fs (defScope (topS 5)) f_put_for.body (defBody (topS 5)) = true := by decide +kernel
theorem sc_system_paper : FnScope (f_system_paper.names.map sN) ((f_system_paper.names.map sN).take f_system_paper.arity) (defScope (topS 6)) := ⟨rfl, rfl, rfl, by decide +kernel, by decide +kernel, by decide +kernel, by decide +kernel⟩
theorem ck_system_paper : chkSs (f_system_paper.names.map sN) fs (defScope (topS 6)) f_system_paper.body (defBody (topS 6)) = true := by decide +kernel
theorem sc_is_system : FnScope (f_is_system.names.map sN) ((f_is_system.names.map sN).take f_is_system.arity) (defScope (topS 7)) := ⟨rfl, rfl, rfl, by decide +kernel, by decide +kernel, by decide +kernel, by decide +kernel⟩
theorem ck_is_system : chkSs (f_is_system.names.map sN) fs (defScope (topS 7)) f_is_system.body (defBody (topS 7)) = true := by decide +kernel
theorem sc__law_of : FnScope (f__law_of.names.map sN) ((f__law_of.names.map sN).take f__law_of.arity) (defScope (topS 11)) := ⟨rfl, rfl, rfl, by decide +kernel, by decide +kernel, by decide +kernel, by decide +kernel⟩
theorem ck__law_of : chkSs (f__law_of.names.map sN) fs (defScope (topS 11)) f__law_of.body (defBody (topS 11)) = true := by decide +kernel
theorem sc__law_lots : FnScope (f__law_lots.names.map sN) ((f__law_lots.names.map sN).take f__law_lots.arity) (defScope (topS 12)) := ⟨rfl, rfl, rfl, by decide +kernel, by decide +kernel, by decide +kernel, by decide +kernel⟩
theorem ck__law_lots : chkSs (f__law_lots.names.map sN) fs (defScope (topS 12)) f__law_lots.body (defBody (topS 12)) = true := by decide +kernel
theorem sc__law_rest : FnScope (f__law_rest.names.map sN) ((f__law_rest.names.map sN).take f__law_rest.arity) (defScope (topS 13)) := ⟨rfl, rfl, rfl, by decide +kernel, by decide +kernel, by decide +kernel, by decide +kernel⟩
theorem ck__law_rest : chkSs (f__law_rest.names.map sN) fs (defScope (topS 13)) f__law_rest.body (defBody (topS 13)) = true := by decide +kernel
theorem sc__law_given : FnScope (f__law_given.names.map sN) ((f__law_given.names.map sN).take f__law_given.arity) (defScope (topS 14)) := ⟨rfl, rfl, rfl, by decide +kernel, by decide +kernel, by decide +kernel, by decide +kernel⟩
theorem ck__law_given : chkSs (f__law_given.names.map sN) fs (defScope (topS 14)) f__law_given.body (defBody (topS 14)) = true := by decide +kernel
theorem sc__law_free_columns : FnScope (f__law_free_columns.names.map sN) ((f__law_free_columns.names.map sN).take f__law_free_columns.arity) (defScope (topS 15)) := ⟨rfl, rfl, rfl, by decide +kernel, by decide +kernel, by decide +kernel, by decide +kernel⟩
theorem ck__law_free_columns : chkSs (f__law_free_columns.names.map sN) fs (defScope (topS 15)) f__law_free_columns.body (defBody (topS 15)) = true := by decide +kernel
theorem sc__law_bases : FnScope (f__law_bases.names.map sN) ((f__law_bases.names.map sN).take f__law_bases.arity) (defScope (topS 16)) := ⟨rfl, rfl, rfl, by decide +kernel, by decide +kernel, by decide +kernel, by decide +kernel⟩
theorem ck__law_bases : chkSs (f__law_bases.names.map sN) fs (defScope (topS 16)) f__law_bases.body (defBody (topS 16)) = true := by decide +kernel
theorem sc__law_system : FnScope (f__law_system.names.map sN) ((f__law_system.names.map sN).take f__law_system.arity) (defScope (topS 17)) := ⟨rfl, rfl, rfl, by decide +kernel, by decide +kernel, by decide +kernel, by decide +kernel⟩
theorem ck__law_system : chkSs (f__law_system.names.map sN) fs (defScope (topS 17)) f__law_system.body (defBody (topS 17)) = true := by decide +kernel
theorem sc__law_is_lot : FnScope (f__law_is_lot.names.map sN) ((f__law_is_lot.names.map sN).take f__law_is_lot.arity) (defScope (topS 18)) := ⟨rfl, rfl, rfl, by decide +kernel, by decide +kernel, by decide +kernel, by decide +kernel⟩
theorem ck__law_is_lot : chkSs (f__law_is_lot.names.map sN) fs (defScope (topS 18)) f__law_is_lot.body (defBody (topS 18)) = true := by decide +kernel
theorem sc__law_paper : FnScope (f__law_paper.names.map sN) ((f__law_paper.names.map sN).take f__law_paper.arity) (defScope (topS 19)) := ⟨rfl, rfl, rfl, by decide +kernel, by decide +kernel, by decide +kernel, by decide +kernel⟩
theorem ck__law_paper : chkSs (f__law_paper.names.map sN) fs (defScope (topS 19)) f__law_paper.body (defBody (topS 19)) = true := by decide +kernel
theorem sc__law_goes : FnScope (f__law_goes.names.map sN) ((f__law_goes.names.map sN).take f__law_goes.arity) (defScope (topS 20)) := ⟨rfl, rfl, rfl, by decide +kernel, by decide +kernel, by decide +kernel, by decide +kernel⟩
theorem ck__law_goes : chkSs (f__law_goes.names.map sN) fs (defScope (topS 20)) f__law_goes.body (defBody (topS 20)) = true := by decide +kernel
theorem sc__law_is_form : FnScope (f__law_is_form.names.map sN) ((f__law_is_form.names.map sN).take f__law_is_form.arity) (defScope (topS 21)) := ⟨rfl, rfl, rfl, by decide +kernel, by decide +kernel, by decide +kernel, by decide +kernel⟩
theorem ck__law_is_form : chkSs (f__law_is_form.names.map sN) fs (defScope (topS 21)) f__law_is_form.body (defBody (topS 21)) = true := by decide +kernel
theorem all_mk {l : PySem.W.OpenLaw} {w : World} {K : PySem.W.Frag} {h : Heap} {mg : Str → Option Value} {fa : Addr} (X : K.In h) (G : h.Ns mainGlobals mg) (hfa : mg (sN "law") = some (.ref fa))
    {g0 : Addr} {od0 an0 : Option Addr} {sl0 : Array (Option Value)} {oc0 kV0 dc0 pm0 cd0 ct0 : Value}
    (a0 : PySem.W.nsIn K mainGlobals (sN "is_number_under") = some (some (.ref g0))) (l0 : K.lookup g0 = some ⟨oc0, od0, .func (PySem.W.fnOf (sN "is_number_under") (sN "is_number_under") (defArgs (topS 1)) (defBody (topS 1)) (defScope (topS 1)) .none kV0 dc0 pm0 an0 cd0 ct0), sl0⟩) (c0 : PySem.W.codeIn K cd0 (sN "is_number_under") = true) (k0 : PySem.W.keepIn K (.ref g0) = true)
    {g1 : Addr} {od1 an1 : Option Addr} {sl1 : Array (Option Value)} {oc1 kV1 dc1 pm1 cd1 ct1 : Value}
    (a1 : PySem.W.nsIn K mainGlobals (sN "is_things_lot") = some (some (.ref g1))) (l1 : K.lookup g1 = some ⟨oc1, od1, .func (PySem.W.fnOf (sN "is_things_lot") (sN "is_things_lot") (defArgs (topS 3)) (defBody (topS 3)) (defScope (topS 3)) .none kV1 dc1 pm1 an1 cd1 ct1), sl1⟩) (c1 : PySem.W.codeIn K cd1 (sN "is_things_lot") = true) (k1 : PySem.W.keepIn K (.ref g1) = true)
    {g2 : Addr} {od2 an2 : Option Addr} {sl2 : Array (Option Value)} {oc2 kV2 dc2 pm2 cd2 ct2 : Value}
    (a2 : PySem.W.nsIn K mainGlobals (sN "is_lots_form") = some (some (.ref g2))) (l2 : K.lookup g2 = some ⟨oc2, od2, .func (PySem.W.fnOf (sN "is_lots_form") (sN "is_lots_form") (defArgs (topS 4)) (defBody (topS 4)) (defScope (topS 4)) .none kV2 dc2 pm2 an2 cd2 ct2), sl2⟩) (c2 : PySem.W.codeIn K cd2 (sN "is_lots_form") = true) (k2 : PySem.W.keepIn K (.ref g2) = true)
    {g3 : Addr} {od3 an3 : Option Addr} {sl3 : Array (Option Value)} {oc3 kV3 dc3 pm3 cd3 ct3 : Value}
    (a3 : PySem.W.nsIn K mainGlobals (sN "put_for") = some (some (.ref g3))) (l3 : K.lookup g3 = some ⟨oc3, od3, .func (PySem.W.fnOf (sN "put_for") (sN "put_for") (defArgs (topS 5)) (defBody (topS 5)) (defScope (topS 5)) .none kV3 dc3 pm3 an3 cd3 ct3), sl3⟩) (c3 : PySem.W.codeIn K cd3 (sN "put_for") = true) (k3 : PySem.W.keepIn K (.ref g3) = true)
    {g4 : Addr} {od4 an4 : Option Addr} {sl4 : Array (Option Value)} {oc4 kV4 dc4 pm4 cd4 ct4 : Value}
    (a4 : PySem.W.nsIn K mainGlobals (sN "system_paper") = some (some (.ref g4))) (l4 : K.lookup g4 = some ⟨oc4, od4, .func (PySem.W.fnOf (sN "system_paper") (sN "system_paper") (defArgs (topS 6)) (defBody (topS 6)) (defScope (topS 6)) .none kV4 dc4 pm4 an4 cd4 ct4), sl4⟩) (c4 : PySem.W.codeIn K cd4 (sN "system_paper") = true) (k4 : PySem.W.keepIn K (.ref g4) = true)
    {g5 : Addr} {od5 an5 : Option Addr} {sl5 : Array (Option Value)} {oc5 kV5 dc5 pm5 cd5 ct5 : Value}
    (a5 : PySem.W.nsIn K mainGlobals (sN "is_system") = some (some (.ref g5))) (l5 : K.lookup g5 = some ⟨oc5, od5, .func (PySem.W.fnOf (sN "is_system") (sN "is_system") (defArgs (topS 7)) (defBody (topS 7)) (defScope (topS 7)) .none kV5 dc5 pm5 an5 cd5 ct5), sl5⟩) (c5 : PySem.W.codeIn K cd5 (sN "is_system") = true) (k5 : PySem.W.keepIn K (.ref g5) = true)
    {g6 : Addr} {od6 an6 : Option Addr} {sl6 : Array (Option Value)} {oc6 kV6 dc6 pm6 cd6 ct6 : Value}
    (a6 : PySem.W.nsIn K mainGlobals (sN "_law_source") = some (some (.ref g6))) (l6 : K.lookup g6 = some ⟨oc6, od6, .func (PySem.W.fnOf (sN "_law_source") (sN "_law_source") (defArgs sSource) (defBody sSource) (defScope sSource) .none kV6 dc6 pm6 an6 cd6 ct6), sl6⟩) (c6 : PySem.W.codeIn K cd6 (sN "_law_source") = true) (k6 : PySem.W.keepIn K (.ref g6) = true)
    {g7 : Addr} {od7 an7 : Option Addr} {sl7 : Array (Option Value)} {oc7 kV7 dc7 pm7 cd7 ct7 : Value}
    (a7 : PySem.W.nsIn K mainGlobals (sN "_law_pick") = some (some (.ref g7))) (l7 : K.lookup g7 = some ⟨oc7, od7, .func (PySem.W.fnOf (sN "_law_pick") (sN "_law_pick") (defArgs sPick) (defBody sPick) (defScope sPick) .none kV7 dc7 pm7 an7 cd7 ct7), sl7⟩) (c7 : PySem.W.codeIn K cd7 (sN "_law_pick") = true) (k7 : PySem.W.keepIn K (.ref g7) = true)
    {g8 : Addr} {od8 an8 : Option Addr} {sl8 : Array (Option Value)} {oc8 kV8 dc8 pm8 cd8 ct8 : Value}
    (a8 : PySem.W.nsIn K mainGlobals (sN "_law_of") = some (some (.ref g8))) (l8 : K.lookup g8 = some ⟨oc8, od8, .func (PySem.W.fnOf (sN "_law_of") (sN "_law_of") (defArgs (topS 11)) (defBody (topS 11)) (defScope (topS 11)) .none kV8 dc8 pm8 an8 cd8 ct8), sl8⟩) (c8 : PySem.W.codeIn K cd8 (sN "_law_of") = true) (k8 : PySem.W.keepIn K (.ref g8) = true)
    {g9 : Addr} {od9 an9 : Option Addr} {sl9 : Array (Option Value)} {oc9 kV9 dc9 pm9 cd9 ct9 : Value}
    (a9 : PySem.W.nsIn K mainGlobals (sN "_law_lots") = some (some (.ref g9))) (l9 : K.lookup g9 = some ⟨oc9, od9, .func (PySem.W.fnOf (sN "_law_lots") (sN "_law_lots") (defArgs (topS 12)) (defBody (topS 12)) (defScope (topS 12)) .none kV9 dc9 pm9 an9 cd9 ct9), sl9⟩) (c9 : PySem.W.codeIn K cd9 (sN "_law_lots") = true) (k9 : PySem.W.keepIn K (.ref g9) = true)
    {g10 : Addr} {od10 an10 : Option Addr} {sl10 : Array (Option Value)} {oc10 kV10 dc10 pm10 cd10 ct10 : Value}
    (a10 : PySem.W.nsIn K mainGlobals (sN "_law_rest") = some (some (.ref g10))) (l10 : K.lookup g10 = some ⟨oc10, od10, .func (PySem.W.fnOf (sN "_law_rest") (sN "_law_rest") (defArgs (topS 13)) (defBody (topS 13)) (defScope (topS 13)) .none kV10 dc10 pm10 an10 cd10 ct10), sl10⟩) (c10 : PySem.W.codeIn K cd10 (sN "_law_rest") = true) (k10 : PySem.W.keepIn K (.ref g10) = true)
    {g11 : Addr} {od11 an11 : Option Addr} {sl11 : Array (Option Value)} {oc11 kV11 dc11 pm11 cd11 ct11 : Value}
    (a11 : PySem.W.nsIn K mainGlobals (sN "_law_given") = some (some (.ref g11))) (l11 : K.lookup g11 = some ⟨oc11, od11, .func (PySem.W.fnOf (sN "_law_given") (sN "_law_given") (defArgs (topS 14)) (defBody (topS 14)) (defScope (topS 14)) .none kV11 dc11 pm11 an11 cd11 ct11), sl11⟩) (c11 : PySem.W.codeIn K cd11 (sN "_law_given") = true) (k11 : PySem.W.keepIn K (.ref g11) = true)
    {g12 : Addr} {od12 an12 : Option Addr} {sl12 : Array (Option Value)} {oc12 kV12 dc12 pm12 cd12 ct12 : Value}
    (a12 : PySem.W.nsIn K mainGlobals (sN "_law_free_columns") = some (some (.ref g12))) (l12 : K.lookup g12 = some ⟨oc12, od12, .func (PySem.W.fnOf (sN "_law_free_columns") (sN "_law_free_columns") (defArgs (topS 15)) (defBody (topS 15)) (defScope (topS 15)) .none kV12 dc12 pm12 an12 cd12 ct12), sl12⟩) (c12 : PySem.W.codeIn K cd12 (sN "_law_free_columns") = true) (k12 : PySem.W.keepIn K (.ref g12) = true)
    {g13 : Addr} {od13 an13 : Option Addr} {sl13 : Array (Option Value)} {oc13 kV13 dc13 pm13 cd13 ct13 : Value}
    (a13 : PySem.W.nsIn K mainGlobals (sN "_law_bases") = some (some (.ref g13))) (l13 : K.lookup g13 = some ⟨oc13, od13, .func (PySem.W.fnOf (sN "_law_bases") (sN "_law_bases") (defArgs (topS 16)) (defBody (topS 16)) (defScope (topS 16)) .none kV13 dc13 pm13 an13 cd13 ct13), sl13⟩) (c13 : PySem.W.codeIn K cd13 (sN "_law_bases") = true) (k13 : PySem.W.keepIn K (.ref g13) = true)
    {g14 : Addr} {od14 an14 : Option Addr} {sl14 : Array (Option Value)} {oc14 kV14 dc14 pm14 cd14 ct14 : Value}
    (a14 : PySem.W.nsIn K mainGlobals (sN "_law_system") = some (some (.ref g14))) (l14 : K.lookup g14 = some ⟨oc14, od14, .func (PySem.W.fnOf (sN "_law_system") (sN "_law_system") (defArgs (topS 17)) (defBody (topS 17)) (defScope (topS 17)) .none kV14 dc14 pm14 an14 cd14 ct14), sl14⟩) (c14 : PySem.W.codeIn K cd14 (sN "_law_system") = true) (k14 : PySem.W.keepIn K (.ref g14) = true)
    {g15 : Addr} {od15 an15 : Option Addr} {sl15 : Array (Option Value)} {oc15 kV15 dc15 pm15 cd15 ct15 : Value}
    (a15 : PySem.W.nsIn K mainGlobals (sN "_law_is_lot") = some (some (.ref g15))) (l15 : K.lookup g15 = some ⟨oc15, od15, .func (PySem.W.fnOf (sN "_law_is_lot") (sN "_law_is_lot") (defArgs (topS 18)) (defBody (topS 18)) (defScope (topS 18)) .none kV15 dc15 pm15 an15 cd15 ct15), sl15⟩) (c15 : PySem.W.codeIn K cd15 (sN "_law_is_lot") = true) (k15 : PySem.W.keepIn K (.ref g15) = true)
    {g16 : Addr} {od16 an16 : Option Addr} {sl16 : Array (Option Value)} {oc16 kV16 dc16 pm16 cd16 ct16 : Value}
    (a16 : PySem.W.nsIn K mainGlobals (sN "_law_paper") = some (some (.ref g16))) (l16 : K.lookup g16 = some ⟨oc16, od16, .func (PySem.W.fnOf (sN "_law_paper") (sN "_law_paper") (defArgs (topS 19)) (defBody (topS 19)) (defScope (topS 19)) .none kV16 dc16 pm16 an16 cd16 ct16), sl16⟩) (c16 : PySem.W.codeIn K cd16 (sN "_law_paper") = true) (k16 : PySem.W.keepIn K (.ref g16) = true)
    {g17 : Addr} {od17 an17 : Option Addr} {sl17 : Array (Option Value)} {oc17 kV17 dc17 pm17 cd17 ct17 : Value}
    (a17 : PySem.W.nsIn K mainGlobals (sN "_law_goes") = some (some (.ref g17))) (l17 : K.lookup g17 = some ⟨oc17, od17, .func (PySem.W.fnOf (sN "_law_goes") (sN "_law_goes") (defArgs (topS 20)) (defBody (topS 20)) (defScope (topS 20)) .none kV17 dc17 pm17 an17 cd17 ct17), sl17⟩) (c17 : PySem.W.codeIn K cd17 (sN "_law_goes") = true) (k17 : PySem.W.keepIn K (.ref g17) = true)
    {g18 : Addr} {od18 an18 : Option Addr} {sl18 : Array (Option Value)} {oc18 kV18 dc18 pm18 cd18 ct18 : Value}
    (a18 : PySem.W.nsIn K mainGlobals (sN "_law_is_form") = some (some (.ref g18))) (l18 : K.lookup g18 = some ⟨oc18, od18, .func (PySem.W.fnOf (sN "_law_is_form") (sN "_law_is_form") (defArgs (topS 21)) (defBody (topS 21)) (defScope (topS 21)) .none kV18 dc18 pm18 an18 cd18 ct18), sl18⟩) (c18 : PySem.W.codeIn K cd18 (sN "_law_is_form") = true) (k18 : PySem.W.keepIn K (.ref g18) = true)
    {g19 : Addr} {od19 an19 : Option Addr} {sl19 : Array (Option Value)} {oc19 kV19 dc19 pm19 cd19 ct19 : Value}
    (a19 : PySem.W.nsIn K mainGlobals (sN "law") = some (some (.ref g19))) (l19 : K.lookup g19 = some ⟨oc19, od19, .func (PySem.W.fnOf (sN "law") (sN "law") (defArgs sLaw) (defBody sLaw) (defScope sLaw) .none kV19 dc19 pm19 an19 cd19 ct19), sl19⟩) (c19 : PySem.W.codeIn K cd19 (sN "law") = true) (k19 : PySem.W.keepIn K (.ref g19) = true)
    (z0 : PySem.W.nsIn K mainGlobals (sN "len") = some none) (z1 : PySem.W.nsIn K mainGlobals (sN "sorted") = some none) (z2 : PySem.W.nsIn K mainGlobals (sN "tuple") = some none) (z3 : PySem.W.nsIn K mainGlobals (sN "list") = some none) (z4 : PySem.W.nsIn K mainGlobals (sN "dict") = some none) (z5 : PySem.W.nsIn K mainGlobals (sN "sum") = some none) (z6 : PySem.W.nsIn K mainGlobals (sN "min") = some none) (z7 : PySem.W.nsIn K mainGlobals (sN "max") = some none) (z8 : PySem.W.nsIn K mainGlobals (sN "abs") = some none) (z9 : PySem.W.nsIn K mainGlobals (sN "int") = some none) (z10 : PySem.W.nsIn K mainGlobals (sN "all") = some none) (z11 : PySem.W.nsIn K mainGlobals (sN "repr") = some none) (z12 : PySem.W.nsIn K mainGlobals (sN "isinstance") = some none) (z13 : PySem.W.nsIn K mainGlobals (sN "bool") = some none) (z14 : PySem.W.nsIn K mainGlobals (sN "str") = some none) (z15 : PySem.W.nsIn K mainGlobals (sN "range") = some none) (z16 : PySem.W.nsIn K mainGlobals (sN "enumerate") = some none) (z17 : PySem.W.nsIn K mainGlobals (sN "zip") = some none) (z18 : PySem.W.nsIn K mainGlobals (sN "set") = some none) :
    ∃ fd : FuncData, (∀ (s : Shared) (v : Value), BindsTo s fd ⟨[v], []⟩ [(sN "script", v)]) ∧ ∀ base : Heap, K.In base → base.Ns mainGlobals mg → FnG l.prog w K mg base 13 fa fd [sN "script"] (spLaw K) := by
  have kit : ∀ x ∈ kitNames, mg (sN x) = none := by
    intro x hx
    simp only [kitNames, List.mem_cons, List.not_mem_nil, or_false] at hx
    rcases hx with rfl | rfl | rfl | rfl | rfl | rfl | rfl | rfl | rfl | rfl | rfl | rfl | rfl | rfl | rfl | rfl | rfl | rfl | rfl
    · exact PySem.W.mg_none_of X G z0
    · exact PySem.W.mg_none_of X G z1
    · exact PySem.W.mg_none_of X G z2
    · exact PySem.W.mg_none_of X G z3
    · exact PySem.W.mg_none_of X G z4
    · exact PySem.W.mg_none_of X G z5
    · exact PySem.W.mg_none_of X G z6
    · exact PySem.W.mg_none_of X G z7
    · exact PySem.W.mg_none_of X G z8
    · exact PySem.W.mg_none_of X G z9
    · exact PySem.W.mg_none_of X G z10
    · exact PySem.W.mg_none_of X G z11
    · exact PySem.W.mg_none_of X G z12
    · exact PySem.W.mg_none_of X G z13
    · exact PySem.W.mg_none_of X G z14
    · exact PySem.W.mg_none_of X G z15
    · exact PySem.W.mg_none_of X G z16
    · exact PySem.W.mg_none_of X G z17
    · exact PySem.W.mg_none_of X G z18
  have e := hfa.symm.trans (PySem.W.mg_of X G a19)
  cases e
  have FL := fun_mk (st := sLaw) l19 c19 k19
  have FS := fun_mk (st := sSource) l6 c6 k6
  have FP := fun_mk (st := sPick) l7 c7 k7
  have bS := FS.binds (ps := PSr) fun _ _ _ _ _ _ us hl => match us, hl with | [_], _ => rfl
  have bP := FP.binds (ps := PP) fun _ _ _ _ _ _ us hl => match us, hl with | [_, _], _ => rfl
  have T0 : Txt K mg fs "is_number_under" f_is_number_under (topS 1) := txt_mk X G a0 l0 c0 k0 (fun _ _ _ _ _ _ us hl => match us, hl with | [_, _], _ => rfl) sc_is_number_under (by decide) ck_is_number_under
  have T1 : Txt K mg fs "is_things_lot" f_is_things_lot (topS 3) := txt_mk X G a1 l1 c1 k1 (fun _ _ _ _ _ _ us hl => match us, hl with | [_, _], _ => rfl) sc_is_things_lot (by decide) ck_is_things_lot
  have T2 : Txt K mg fs "is_lots_form" f_is_lots_form (topS 4) := txt_mk X G a2 l2 c2 k2 (fun _ _ _ _ _ _ us hl => match us, hl with | [_], _ => rfl) sc_is_lots_form (by decide) ck_is_lots_form
  have T3 : Txt K mg fs "put_for" f_put_for (topS 5) := txt_mk X G a3 l3 c3 k3 (fun _ _ _ _ _ _ us hl => match us, hl with | [_, _, _], _ => rfl) sc_put_for (by decide) ck_put_for
  have T4 : Txt K mg fs "system_paper" f_system_paper (topS 6) := txt_mk X G a4 l4 c4 k4 (fun _ _ _ _ _ _ us hl => match us, hl with | [_], _ => rfl) sc_system_paper (by decide) ck_system_paper
  have T5 : Txt K mg fs "is_system" f_is_system (topS 7) := txt_mk X G a5 l5 c5 k5 (fun _ _ _ _ _ _ us hl => match us, hl with | [_], _ => rfl) sc_is_system (by decide) ck_is_system
  have T8 : Txt K mg fs "_law_of" f__law_of (topS 11) := txt_mk X G a8 l8 c8 k8 (fun _ _ _ _ _ _ us hl => match us, hl with | [_, _], _ => rfl) sc__law_of (by decide) ck__law_of
  have T9 : Txt K mg fs "_law_lots" f__law_lots (topS 12) := txt_mk X G a9 l9 c9 k9 (fun _ _ _ _ _ _ us hl => match us, hl with | [_], _ => rfl) sc__law_lots (by decide) ck__law_lots
  have T10 : Txt K mg fs "_law_rest" f__law_rest (topS 13) := txt_mk X G a10 l10 c10 k10 (fun _ _ _ _ _ _ us hl => match us, hl with | [_, _], _ => rfl) sc__law_rest (by decide) ck__law_rest
  have T11 : Txt K mg fs "_law_given" f__law_given (topS 14) := txt_mk X G a11 l11 c11 k11 (fun _ _ _ _ _ _ us hl => match us, hl with | [_], _ => rfl) sc__law_given (by decide) ck__law_given
  have T12 : Txt K mg fs "_law_free_columns" f__law_free_columns (topS 15) := txt_mk X G a12 l12 c12 k12 (fun _ _ _ _ _ _ us hl => match us, hl with | [_, _], _ => rfl) sc__law_free_columns (by decide) ck__law_free_columns
  have T13 : Txt K mg fs "_law_bases" f__law_bases (topS 16) := txt_mk X G a13 l13 c13 k13 (fun _ _ _ _ _ _ us hl => match us, hl with | [_, _], _ => rfl) sc__law_bases (by decide) ck__law_bases
  have T14 : Txt K mg fs "_law_system" f__law_system (topS 17) := txt_mk X G a14 l14 c14 k14 (fun _ _ _ _ _ _ us hl => match us, hl with | [_, _], _ => rfl) sc__law_system (by decide) ck__law_system
  have T15 : Txt K mg fs "_law_is_lot" f__law_is_lot (topS 18) := txt_mk X G a15 l15 c15 k15 (fun _ _ _ _ _ _ us hl => match us, hl with | [_, _], _ => rfl) sc__law_is_lot (by decide) ck__law_is_lot
  have T16 : Txt K mg fs "_law_paper" f__law_paper (topS 19) := txt_mk X G a16 l16 c16 k16 (fun _ _ _ _ _ _ us hl => match us, hl with | [_], _ => rfl) sc__law_paper (by decide) ck__law_paper
  have T17 : Txt K mg fs "_law_goes" f__law_goes (topS 20) := txt_mk X G a17 l17 c17 k17 (fun _ _ _ _ _ _ us hl => match us, hl with | [_, _, _, _], _ => rfl) sc__law_goes (by decide) ck__law_goes
  have T18 : Txt K mg fs "_law_is_form" f__law_is_form (topS 21) := txt_mk X G a18 l18 c18 k18 (fun _ _ _ _ _ _ us hl => match us, hl with | [_], _ => rfl) sc__law_is_form (by decide) ck__law_is_form
  refine ⟨_, fun s v => .of_eq rfl, fun base _ _ => law_ok (n := 11) FL FS (PySem.W.mg_of X G a6) bS kit (fun f hf => ?_) val⟩
  refine defs_ok (P := l.prog) (w := w) (base := base) (Γ := Γ) (fs := fs) kit (fun f hf hp => ?_) (fun f hf hp n ih => ?_) (fun f hf => ?_) 12 f hf
  · simp only [fs, List.mem_cons, List.not_mem_nil, or_false] at hf
    rcases hf with rfl | rfl | rfl | rfl | rfl | rfl | rfl | rfl | rfl | rfl | rfl | rfl | rfl | rfl | rfl | rfl | rfl | rfl
    · exact ⟨f_is_number_under, topS 1, rfl, T0⟩
    · exact ⟨f_is_things_lot, topS 3, rfl, T1⟩
    · exact ⟨f_is_lots_form, topS 4, rfl, T2⟩
    · exact ⟨f_put_for, topS 5, rfl, T3⟩
    · exact ⟨f_system_paper, topS 6, rfl, T4⟩
    · exact ⟨f_is_system, topS 7, rfl, T5⟩
    · exact absurd (hp 1 true []) (by simp [prim])
    · exact ⟨f__law_of, topS 11, rfl, T8⟩
    · exact ⟨f__law_lots, topS 12, rfl, T9⟩
    · exact ⟨f__law_rest, topS 13, rfl, T10⟩
    · exact ⟨f__law_given, topS 14, rfl, T11⟩
    · exact ⟨f__law_free_columns, topS 15, rfl, T12⟩
    · exact ⟨f__law_bases, topS 16, rfl, T13⟩
    · exact ⟨f__law_system, topS 17, rfl, T14⟩
    · exact ⟨f__law_is_lot, topS 18, rfl, T15⟩
    · exact ⟨f__law_paper, topS 19, rfl, T16⟩
    · exact ⟨f__law_goes, topS 20, rfl, T17⟩
    · exact ⟨f__law_is_form, topS 21, rfl, T18⟩
  · rcases hp with rfl | rfl
    · exact pick_ok (fs := fs) FP (PySem.W.mg_of X G a7) bP kit n
    · exact absurd hf (by decide)
  · simp only [fs, List.mem_cons, List.not_mem_nil, or_false] at hf
    rcases hf with rfl | rfl | rfl | rfl | rfl | rfl | rfl | rfl | rfl | rfl | rfl | rfl | rfl | rfl | rfl | rfl | rfl | rfl
    · obtain ⟨fa, fd, F, hm, hb, _, _, _⟩ := T0.ex; exact zero_ok F hm hb
    · obtain ⟨fa, fd, F, hm, hb, _, _, _⟩ := T1.ex; exact zero_ok F hm hb
    · obtain ⟨fa, fd, F, hm, hb, _, _, _⟩ := T2.ex; exact zero_ok F hm hb
    · obtain ⟨fa, fd, F, hm, hb, _, _, _⟩ := T3.ex; exact zero_ok F hm hb
    · obtain ⟨fa, fd, F, hm, hb, _, _, _⟩ := T4.ex; exact zero_ok F hm hb
    · obtain ⟨fa, fd, F, hm, hb, _, _, _⟩ := T5.ex; exact zero_ok F hm hb
    · exact zero_ok FP (PySem.W.mg_of X G a7) bP
    · obtain ⟨fa, fd, F, hm, hb, _, _, _⟩ := T8.ex; exact zero_ok F hm hb
    · obtain ⟨fa, fd, F, hm, hb, _, _, _⟩ := T9.ex; exact zero_ok F hm hb
    · obtain ⟨fa, fd, F, hm, hb, _, _, _⟩ := T10.ex; exact zero_ok F hm hb
    · obtain ⟨fa, fd, F, hm, hb, _, _, _⟩ := T11.ex; exact zero_ok F hm hb
    · obtain ⟨fa, fd, F, hm, hb, _, _, _⟩ := T12.ex; exact zero_ok F hm hb
    · obtain ⟨fa, fd, F, hm, hb, _, _, _⟩ := T13.ex; exact zero_ok F hm hb
    · obtain ⟨fa, fd, F, hm, hb, _, _, _⟩ := T14.ex; exact zero_ok F hm hb
    · obtain ⟨fa, fd, F, hm, hb, _, _, _⟩ := T15.ex; exact zero_ok F hm hb
    · obtain ⟨fa, fd, F, hm, hb, _, _, _⟩ := T16.ex; exact zero_ok F hm hb
    · obtain ⟨fa, fd, F, hm, hb, _, _, _⟩ := T17.ex; exact zero_ok F hm hb
    · obtain ⟨fa, fd, F, hm, hb, _, _, _⟩ := T18.ex; exact zero_ok F hm hb
end Mp
open PySem PySem.W PyProof.Rows
set_option maxHeartbeats 0 in
theorem PySem.Challenge.cw_linkedlots_k15_whole_systems_and_papers_holds : PySem.Challenge.rw_linkedlots_k15_whole_systems_and_papers.Holds := by
  w_on; o_law; k_head; (case hw => w_witness2)
  k_fill
  refine Mp.walk_g (l := PySem.Challenge.rw_linkedlots_k15_whole_systems_and_papers) (n := 63) (k := 13) (x := "script") (sp := fun w => Mp.spLaw _) rfl (by decide) rfl ⟨rfl, by decide, by decide⟩ (fun w h Y => PySem.W.kIn_of Y) ?F (fun _ _ a ns hl hS => ⟨a, ns, rfl, hS, hl, fun _ => rfl⟩)
  case F =>
    intro w mg fa h KX G hmg
    refine' Mp.all_mk KX G hmg ?a0 ?l0 ?c0 ?k0 ?a1 ?l1 ?c1 ?k1 ?a2 ?l2 ?c2 ?k2 ?a3 ?l3 ?c3 ?k3 ?a4 ?l4 ?c4 ?k4 ?a5 ?l5 ?c5 ?k5 ?a6 ?l6 ?c6 ?k6 ?a7 ?l7 ?c7 ?k7 ?a8 ?l8 ?c8 ?k8 ?a9 ?l9 ?c9 ?k9 ?a10 ?l10 ?c10 ?k10 ?a11 ?l11 ?c11 ?k11 ?a12 ?l12 ?c12 ?k12 ?a13 ?l13 ?c13 ?k13 ?a14 ?l14 ?c14 ?k14 ?a15 ?l15 ?c15 ?k15 ?a16 ?l16 ?c16 ?k16 ?a17 ?l17 ?c17 ?k17 ?a18 ?l18 ?c18 ?k18 ?a19 ?l19 ?c19 ?k19 ?z0 ?z1 ?z2 ?z3 ?z4 ?z5 ?z6 ?z7 ?z8 ?z9 ?z10 ?z11 ?z12 ?z13 ?z14 ?z15 ?z16 ?z17 ?z18
    (case a0 => k_is); (case l0 => k_is); (case c0 => k_is); (case k0 => k_is); (case a1 => k_is); (case l1 => k_is); (case c1 => k_is); (case k1 => k_is); (case a2 => k_is); (case l2 => k_is); (case c2 => k_is); (case k2 => k_is); (case a3 => k_is); (case l3 => k_is); (case c3 => k_is); (case k3 => k_is); (case a4 => k_is); (case l4 => k_is); (case c4 => k_is); (case k4 => k_is); (case a5 => k_is); (case l5 => k_is); (case c5 => k_is); (case k5 => k_is); (case a6 => k_is); (case l6 => k_is); (case c6 => k_is); (case k6 => k_is); (case a7 => k_is); (case l7 => k_is); (case c7 => k_is); (case k7 => k_is); (case a8 => k_is); (case l8 => k_is); (case c8 => k_is); (case k8 => k_is); (case a9 => k_is); (case l9 => k_is); (case c9 => k_is); (case k9 => k_is); (case a10 => k_is); (case l10 => k_is); (case c10 => k_is); (case k10 => k_is); (case a11 => k_is); (case l11 => k_is); (case c11 => k_is); (case k11 => k_is); (case a12 => k_is); (case l12 => k_is); (case c12 => k_is); (case k12 => k_is); (case a13 => k_is); (case l13 => k_is); (case c13 => k_is); (case k13 => k_is); (case a14 => k_is); (case l14 => k_is); (case c14 => k_is); (case k14 => k_is); (case a15 => k_is); (case l15 => k_is); (case c15 => k_is); (case k15 => k_is); (case a16 => k_is); (case l16 => k_is); (case c16 => k_is); (case k16 => k_is); (case a17 => k_is); (case l17 => k_is); (case c17 => k_is); (case k17 => k_is); (case a18 => k_is); (case l18 => k_is); (case c18 => k_is); (case k18 => k_is); (case a19 => k_is); (case l19 => k_is); (case c19 => k_is); (case k19 => k_is); (case z0 => k_is); (case z1 => k_is); (case z2 => k_is); (case z3 => k_is); (case z4 => k_is); (case z5 => k_is); (case z6 => k_is); (case z7 => k_is); (case z8 => k_is); (case z9 => k_is); (case z10 => k_is); (case z11 => k_is); (case z12 => k_is); (case z13 => k_is); (case z14 => k_is); (case z15 => k_is); (case z16 => k_is); (case z17 => k_is); (case z18 => k_is)

