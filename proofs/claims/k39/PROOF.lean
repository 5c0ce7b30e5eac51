import PyProof.Rows.All
import HandS.ForMost
import HandS.ForExc
import HandS.IsInst
import HandS.Zip
import HandS.Style
import HandS.EndBits
import HandS.Wide
import HandS.Flow
import HandS.TryOnly
import HandS.Sort
import KE.DataMinMax
import HandS.More
import HandS.SetFor
import HandS.Conv
import KE.GoesRaise
import HandS.Small
import HandS.ExcIs
import PySem.Challenge.RW_topstretch_k39_texts_of_no_row
set_option Elab.async false
set_option linter.all false
set_option maxRecDepth 100000
/-! Values without a heap, a slim syntax, its evaluator. -/
namespace PV
open PySem PySem.Spec PyProof.Rows L2
/-- a value as data -/
inductive D where
  | non | bl (b : Bool) | int (i : Int) | str (x : Str)
  | lst (ds : List D) | fl (ds : List D) | tup (ds : List D)
  | dct (kvs : List (Key × V)) | cel (n : Nat) | fn (f : Str) | err (n : Str)
/-- how a slot holds its value: shared, its own, its own and locked -/
inductive Kd where
  | sh | ow | lk
  deriving DecidableEq
structure Sl where
  k : Kd
  d : D
structure Sx where
  e : List (Option Sl)
  c : List (List D)
inductive R where
  | sh (d : D) | fr (d : D) | nm (i : Nat)
inductive Out (α : Type) where
  | ok (a : α) (s : Sx) | exc (n : Str) (s : Sx)
abbrev M (α : Type) := Sx → Option (Out α)
def bd {α β : Type} (m : M α) (f : α → M β) : M β := fun s => match m s with
  | none => none
  | some (.ok a s') => f a s'
  | some (.exc n s') => some (.exc n s')
def pu {α : Type} (a : α) : M α := fun s => some (.ok a s)
def op? {α : Type} (o : Option α) : M α := fun s => match o with
  | none => none
  | some a => some (.ok a s)
/-- a list with an identity is read as it stands -/
def der (c : List (List D)) : D → Option D
  | .cel n => match c[n]? with
    | some ds => some (.lst ds)
    | none => none
  | d => some d
def look (s : Sx) : R → Option D
  | .sh d => der s.c d
  | .fr (.lst ds) => some (.lst ds)
  | .fr _ => none
  | .nm i => match s.e[i]? with
    | some (some sl) => der s.c sl.d
    | _ => none
def lkp (r : R) : M D := fun s => op? (look s r) s
/-- what is stored elsewhere is shared from then on -/
def esc : R → M D
  | .sh d => pu d
  | .fr (.lst ds) => pu (.lst ds)
  | .fr _ => fun _ => none
  | .nm i => fun s => match s.e[i]? with
    | some (some ⟨.sh, d⟩) => some (.ok d s)
    | some (some ⟨.ow, .lst ds⟩) => some (.ok (.lst ds) { s with e := s.e.set i (some ⟨.sh, .lst ds⟩) })
    | _ => none
def escs : List R → M (List D)
  | [] => pu []
  | r :: rs => bd (esc r) fun d => bd (escs rs) fun ds => pu (d :: ds)
inductive Bop where
  | add | sub | mul | fdiv | mod | pow | shr | band
  deriving DecidableEq
inductive Cop where
  | eq | ne | lt | le | gt | ge | is | isn | mem | nmem
  deriving DecidableEq
inductive Ty where
  | int | bool | str | list | tuple
  deriving DecidableEq
inductive Blt where
  | len | abs | min | max | sum | list | int | all | str | sorted | lrng
  deriving DecidableEq
inductive Mth where
  | append | pop | popAt | extend | insert | clear | index | count | get | join | split | upper
  deriving DecidableEq
inductive Tg where
  | nm (i : Nat) | tp (is : List Nat)
mutual
inductive Ex where
  | var (i : Nat) | con (d : D)
  | bin (o : Bop) (a b : Ex) | neg (a : Ex) | nt (a : Ex) | an (a b : Ex) | orr (a b : Ex) | orv (a b : Ex)
  | lset (a : Ex) | nir (a b : Ex) | cmp (o : Cop) (a b : Ex) | ch (o o' : Cop) (a b c : Ex) | ch3 (o o' o'' : Cop) (a b c d : Ex) | ife (t a b : Ex)
  | tup (es : Exs) | lst (es : Exs) | cel (es : Exs) | celOf (a : Ex)
  | ix (a b : Ex) | sl (a : Ex) (lo hi : Exo) | rev (a : Ex)
  | call (share : Bool) (f : Str) (es : Exs) | callV (i : Nat) (fs : List Str) (es : Exs) | blt (f : Blt) (es : Exs) | isi (a : Ex) (ts : List Ty) | isx (a : Ex) (tab : List (Str × Bool))
  | mt (m : Mth) (a : Ex) (es : Exs) | dnew
  | lc (own : List Nat) (e : Ex) (t : Tg) (src : Src) (test : Exo) | lcx (own : List Nat) (e : Ex) (t : Tg) (src : Src)
inductive Exs where
  | nil | cons (e : Ex) (r : Exs)
inductive Exo where
  | none | some (e : Ex)
inductive Src where
  | seq (e : Ex) | rng (es : Exs) | enu (e : Ex) | zip (a b : Ex)
end
/-- the steps of an except suite -/
inductive Us where
  | setL (i : Nat) (bs : List Bool) | addL (i : Nat) (bs : List Bool) | app (i : Nat) (b : Bool) | non (i : Nat)
mutual
inductive St where
  | set (i : Nat) (e : Ex) | setT (js : List Nat) (e : Ex) | setP (i j : Nat) (a b : Ex) | setI (o i e : Ex) | setS (o : Ex) (lo hi : Exo) (e : Ex)
  | aug (i : Nat) (o : Bop) (e : Ex) | augI (i : Nat) (b : Ex) (o : Bop) (j : Int)
  | ex (e : Ex) | ret (e : Ex) | retN | ifs (t : Ex) (a b : Sts) | whl (t : Ex) (b : Sts) | for (t : Tg) (src : Src) (b : Sts)
  | rai (n : Str) | pas | brk | cnt | tryx (b : Sts) (x : Nat) (h : List (Str × List Us)) | tryb (b : Sts) (x i : Nat) (ns : List Str)
inductive Sts where
  | nil | cons (s : St) (r : Sts)
end
/-! ### operations on data -/
/-- a text so many times; one from behind -/
def timesS (x : Str) (k : Nat) : Str := ⟨(List.replicate k x.cps.toList).flatten.toArray⟩
def revS (x : Str) : Str := ⟨x.cps.toList.reverse.toArray⟩
def mulOk (i j : Int) : Bool := decide ((-18446744073709551616 < i ∧ i < 18446744073709551616) ∨ (-18446744073709551616 < j ∧ j < 18446744073709551616))
def bop : Bop → D → D → Option R
  | .add, .int i, .int j => some (.sh (.int (i + j)))
  | .add, .lst xs, .lst ys => if xs.length + ys.length ≤ 16777216 then some (.fr (.lst (xs ++ ys))) else none
  | .add, .tup xs, .tup ys => if xs ≠ [] ∧ ys ≠ [] ∧ xs.length + ys.length ≤ 16777216 then some (.sh (.tup (xs ++ ys))) else none
  | .add, .str x, .str y => if x.length + y.length ≤ 16777216 then some (.sh (.str (x ++ y))) else none
  | .sub, .int i, .int j => some (.sh (.int (i - j)))
  | .mul, .int i, .int j => if mulOk i j then some (.sh (.int (i * j))) else none
  | .mul, .lst xs, .int k => if -9223372036854775808 ≤ k ∧ k < 9223372036854775808 ∧ xs.length * k.toNat ≤ 16777216 then some (.fr (.lst (List.replicate k.toNat xs).flatten)) else none
  | .mul, .str x, .int k => if 0 ≤ k ∧ k ≤ 16777216 ∧ x.length * k.toNat ≤ 16777216 then some (.sh (.str (timesS x k.toNat))) else none
  | .fdiv, .int i, .int j => if 0 < j ∧ j < 1000000000000000000000000000000000000000000000000000000000000 then some (.sh (.int (i / j))) else none
  | .mod, .int i, .int j => if 0 < j then some (.sh (.int (i % j))) else none
  | .pow, .int i, .int j => if 0 ≤ j ∧ j ≤ 1000000 ∧ i.natAbs < 18446744073709551616 then some (.sh (.int (i ^ j.toNat))) else none
  | .shr, .int i, .int j => if 0 ≤ j then some (.sh (.int (i / 2 ^ j.toNat))) else none
  | .band, .int i, .int j => some (.sh (.int (Builtin.bitAnd i j)))
  | _, _, _ => none
mutual
def toP : D → Option PyData
  | .non => some .none
  | .bl b => some (.bool b)
  | .int i => some (.int i)
  | .str x => some (.str x)
  | .lst ds => match toPs ds with
    | some ps => some (.list ps)
    | none => none
  | .fl ds => match toPs ds with
    | some ps => some (.list ps)
    | none => none
  | .tup ds => match toPs ds with
    | some ps => some (.tuple ps)
    | none => none
  | .dct _ => none
  | .cel _ => none
  | .fn _ => none
  | .err _ => none
def toPs : List D → Option (List PyData)
  | [] => some []
  | d :: ds => match toP d, toPs ds with
    | some p, some ps => some (p :: ps)
    | _, _ => none
end
def eqD (a b : D) : Option Bool := match toP a, toP b with
  | some p, some q => if SeqAt.shaped p = true ∧ SeqAt.shaped q = true then some (PyData.eqv p q) else none
  | _, _ => none
def intsOf : List D → Option (List Int)
  | [] => some []
  | .int i :: ds => match intsOf ds with
    | some is => some (i :: is)
    | none => none
  | _ => none
def lexLt : List Int → List Int → Bool
  | x :: xs, y :: ys => if x = y then lexLt xs ys else decide (x < y)
  | [], _ :: _ => true
  | _, [] => false
def D.isNon : D → Bool
  | .non => true
  | _ => false
def seqOf : D → Option (List D)
  | .lst ds => some ds
  | .fl ds => some ds
  | .tup ds => some ds
  | _ => none
def lstOf : D → Option (List D)
  | .lst ds => some ds
  | .fl ds => some ds
  | _ => none
/-- scalars that `in` may look for -/
def flatD : D → Bool
  | .non => true | .bl _ => true | .int _ => true | .str _ => true
  | _ => false
def eqF : D → D → Bool
  | .non, .non => true
  | .bl a, .bl b => a == b
  | .bl a, .int j => (if a then (1 : Int) else 0) == j
  | .int i, .bl b => i == (if b then (1 : Int) else 0)
  | .int i, .int j => i == j
  | .str x, .str y => x == y
  | _, _ => false
def memD (x : D) (ds : List D) : Option Bool := if flatD x = true ∧ ds.all flatD = true then some (ds.any fun y => eqF y x) else none
def cop : Cop → D → D → Option Bool
  | .eq, .int i, .int j => some (decide (i = j))
  | .ne, .int i, .int j => some (!decide (i = j))
  | .eq, a, b => eqD a b
  | .ne, a, b => (eqD a b).map (!·)
  | .lt, .int i, .int j => some (decide (i < j))
  | .le, .int i, .int j => some (decide (i ≤ j))
  | .gt, .int i, .int j => some (decide (j < i))
  | .ge, .int i, .int j => some (decide (j ≤ i))
  | .lt, .tup xs, .tup ys => match intsOf xs, intsOf ys with
    | some ns, some ms => some (lexLt ns ms)
    | _, _ => none
  | .is, a, .non => some a.isNon
  | .isn, a, .non => some (!a.isNon)
  | .is, .bl a, .bl b => some (decide (a = b))
  | .isn, .bl a, .bl b => some (!decide (a = b))
  | .mem, .str x, .str y => some (!(Builtin.Str.occurrences y x 0 y.length 1).isEmpty)
  | .nmem, .str x, .str y => some (!(!(Builtin.Str.occurrences y x 0 y.length 1).isEmpty))
  | .mem, x, y => match seqOf y with
    | some ds => memD x ds
    | none => none
  | .nmem, x, y => match seqOf y with
    | some ds => (memD x ds).map (!·)
    | none => none
  | _, _, _ => none
def truD : D → Option Bool
  | .non => some false
  | .bl b => some b
  | .int i => some (i != 0)
  | _ => none
/-- an item by its place, from behind where below 0 -/
def ixN (n : Nat) (i : Int) : Option Nat := if 0 ≤ i then (if i < n then some i.toNat else none) else if -(n : Int) ≤ i then some (i + n).toNat else none
def atD (ds : List D) (i : Int) : Option D := match ixN ds.length i with
  | some j => ds[j]?
  | none => none
/-- keys and values of dicts -/
def keyD : D → Option Key
  | .int i => some (.inl i)
  | .str x => some (.inr x)
  | _ => none
def dV : D → Option V
  | .int i => some (.int i)
  | .bl b => some (.bl b)
  | _ => none
def vD : V → Option D
  | .int i => some (.int i)
  | .bl b => some (.bl b)
  | _ => none
def ixD : D → D → Option D
  | .lst ds, .int i => atD ds i
  | .fl ds, .int i => atD ds i
  | .tup ds, .int i => atD ds i
  | .str z, .int i => if z.length ≤ 16777216 then match L2.atI z.cps.toList i with
    | some c => some (.str ⟨#[c]⟩)
    | none => none else none
  | _, _ => none
def sIx (n d : Nat) : Option Int → Nat
  | none => d
  | some v => if v < 0 then (v + (n : Int)).toNat else min v.toNat n
def cut {α : Type} (xs : List α) (lo hi : Option Int) : List α := (xs.drop (sIx xs.length 0 lo)).take (sIx xs.length xs.length hi - sIx xs.length 0 lo)
def slD : D → Option Int → Option Int → Option R
  | .lst ds, lo, hi => some (.fr (.lst (cut ds lo hi)))
  | .fl ds, lo, hi => some (.fr (.lst (cut ds lo hi)))
  | .tup ds, lo, hi => if sIx ds.length 0 lo = 0 ∧ sIx ds.length ds.length hi = ds.length then none else some (.sh (.tup (cut ds lo hi)))
  | .str x, lo, hi => if x.length ≤ 16777216 then some (.sh (.str (cutS x lo hi))) else none
  | _, _, _ => none
def revD : D → Option R
  | .lst ds => some (.fr (.lst ds.reverse))
  | .str x => if x.length ≤ 16777216 then some (.sh (.str (revS x))) else none
  | _ => none
def isTy : D → Ty → Bool
  | .bl _, .bool => true
  | .bl _, .int => true
  | .int _, .int => true
  | .str _, .str => true
  | .lst _, .list => true
  | .fl _, .list => true
  | .tup _, .tuple => true
  | _, _ => false
def isD (d : D) (ts : List Ty) : Option Bool := match d with
  | .dct _ => none
  | .cel _ => none
  | .fn _ => none
  | .err _ => none
  | d => some (ts.any (isTy d))
/-- isinstance of a kept error -/
def isxD (tab : List (Str × Bool)) : D → Option R
  | .err n => match tab.lookup n with
    | some b => some (.sh (.bl b))
    | none => none
  | _ => none
def mxL : Int → List Int → Int
  | x, [] => x
  | x, y :: r => mxL (if y > x then y else x) r
def mnL : Int → List Int → Int
  | x, [] => x
  | x, y :: r => mnL (if y < x then y else x) r
def blsOf : List D → Option (List Bool)
  | [] => some []
  | .bl i :: ds => match blsOf ds with
    | some is => some (i :: is)
    | none => none
  | _ => none
def strsOf : List D → Option (List Str)
  | [] => some []
  | .str i :: ds => match strsOf ds with
    | some is => some (i :: is)
    | none => none
  | _ => none
def keysOf : List (Key × V) → Option (List Int)
  | [] => some []
  | (.inl i, _) :: ds => match keysOf ds with
    | some is => some (i :: is)
    | none => none
  | _ => none
/-- sorted -/
def insI (x : Int) : List Int → List Int
  | [] => [x]
  | y :: r => if x ≤ y then x :: y :: r else y :: insI x r
def srtI : List Int → List Int
  | [] => []
  | x :: r => insI x (srtI r)
def rngD : List D → Option (List D)
  | [.int j] => if -4611686018427387904 ≤ j ∧ j < 4611686018427387904 then some ((List.range j.toNat).map fun (k : Nat) => D.int (k : Int)) else none
  | [.int i, .int j] => if (-4611686018427387904 ≤ i ∧ i < 4611686018427387904) ∧ -4611686018427387904 ≤ j ∧ j < 4611686018427387904 then some ((List.range (j - i).toNat).map fun (k : Nat) => D.int (i + (k : Int))) else none
  | [.int i, .int j, .int c] => if c = -1 ∧ (-4611686018427387904 ≤ i ∧ i < 4611686018427387904) ∧ -4611686018427387904 ≤ j ∧ j < 4611686018427387904 then some ((List.range (i - j).toNat).map fun (k : Nat) => D.int (i - (k : Int))) else none
  | _ => none
def lrngD : List D → Option R
  | [.int j] => if -4611686018427387904 ≤ j ∧ j ≤ 16777216 then some (.fr (.lst ((List.range j.toNat).map fun (k : Nat) => D.int (k : Int)))) else none
  | [.int i, .int j] => if (-4611686018427387904 ≤ i ∧ i < 4611686018427387904) ∧ -4611686018427387904 ≤ j ∧ j < 4611686018427387904 ∧ j - i ≤ 16777216 then some (.fr (.lst ((List.range (j - i).toNat).map fun (k : Nat) => D.int (i + (k : Int))))) else none
  | [.int i, .int j, .int c] => if c = -1 ∧ (-4611686018427387904 ≤ i ∧ i < 4611686018427387904) ∧ -4611686018427387904 ≤ j ∧ j < 4611686018427387904 ∧ i - j ≤ 16777216 then some (.fr (.lst ((List.range (i - j).toNat).map fun (k : Nat) => D.int (i - (k : Int))))) else none
  | _ => none
/-- the least of a list of alike things -/
def minTD (ds : List D) : Option R := match toPs ds with
  | some ps => if 0 < ps.length ∧ (ps.all fun x => ps.all fun y => PySem.W.alike x y) = true ∧ (ps.all fun x => match x with | .none => false | _ => true) = true ∧ PyData.depthAll ps ≤ 32 then
      (ds[argBest (fun i j => PySem.W.dataLt (ps.getD i .none) (ps.getD j .none)) (ps.length - 1)]?).map .sh else none
  | none => none
def bltD : Blt → List D → Option R
  | .len, [.lst ds] => some (.sh (.int ds.length))
  | .len, [.fl ds] => some (.sh (.int ds.length))
  | .len, [.tup ds] => some (.sh (.int ds.length))
  | .len, [.str x] => if x.length ≤ 16777216 then some (.sh (.int x.length)) else none
  | .str, [.int i] => if i.natAbs.log2 < 1920 then some (.sh (.str (toString i))) else none
  | .int, [.str x] => if x.length ≤ 640 then match PySem.intText? x with
    | some n => some (.sh (.int n))
    | none => none else none
  | .abs, [.int i] => some (.sh (.int (if i < 0 then -i else i)))
  | .max, [.int i, .int j] => some (.sh (.int (if j > i then j else i)))
  | .min, [.int i, .int j] => some (.sh (.int (if j < i then j else i)))
  | .max, [.lst ds] => match intsOf ds with
    | some (x :: r) => some (.sh (.int (mxL x r)))
    | _ => none
  | .min, [.lst ds] => match intsOf ds with
    | some (x :: r) => some (.sh (.int (mnL x r)))
    | some [] => none
    | none => minTD ds
  | .sum, [.lst ds] => match intsOf ds with
    | some ns => some (.sh (.int ns.sum))
    | none => none
  | .list, [.lst ds] => some (.fr (.lst ds))
  | .list, [.fl ds] => some (.fr (.lst ds))
  | .list, [.tup ds] => some (.fr (.lst ds))
  | .int, [.int i] => some (.sh (.int i))
  | .int, [.bl b] => some (.sh (.int (if b then 1 else 0)))
  | .all, [.lst ds] => match blsOf ds with
    | some bs => some (.sh (.bl (bs.all id)))
    | none => none
  | .min, [.tup xs, .tup ys] => match intsOf xs, intsOf ys with
    | some ns, some ms => some (.sh (.tup (if lexLt ms ns then ys else xs)))
    | _, _ => none
  | .min, [.int i, .int j, .int k] => some (.sh (.int (min (min i j) k)))
  | .max, [.int i, .int j, .int k] => some (.sh (.int (max (max i j) k)))
  | .sorted, [.dct kvs] => match keysOf kvs with
    | some ks => if ks.length < 64 then some (.fr (.lst ((srtI ks).map D.int))) else none
    | none => none
  | .lrng, ds => lrngD ds
  | _, _ => none
/-- the place of the first such -/
def idxD (x : D) : List D → Option Nat
  | [] => none
  | d :: r => if eqF d x then some 0 else match idxD x r with
    | some j => some (j + 1)
    | none => none
/-- a method that reads -/
def mthD : Mth → D → List D → Option R
  | .index, .lst ds, [x] => if flatD x = true ∧ ds.all flatD = true then match idxD x ds with
    | some j => some (.sh (.int j))
    | none => none else none
  | .count, .lst ds, [.int k] => match intsOf ds with
    | some ns => some (.sh (.int (ns.count k)))
    | none => none
  | .get, .dct kvs, [k, .int z] => match keyD k with
    | some y => match vD ((valV kvs y).getD (.int z)) with
      | some d => some (.sh d)
      | none => none
    | none => none
  | .join, .str a, [.lst ds] => match strsOf ds with
    | some ys => if (ys.map (·.length)).sum + ys.length * a.length ≤ 16777216 then some (.sh (.str (Txt.join a ys))) else none
    | none => none
  | .split, .str a, [.str b] => if (b.length == 0) = false ∧ a.length + 2 ≤ 16777216 then some (.fr (.lst ((Txt.split a b).map D.str))) else none
  | .upper, .str a, [] => if a.length ≤ 5592405 then some (.sh (.str (Txt.upper a))) else none
  | _, _, _ => none
/-- what has such a method -/
def mthK : Mth → D → Bool
  | .index, .lst _ => true
  | .count, .lst _ => true
  | .get, .dct _ => true
  | .join, .str _ => true
  | .split, .str _ => true
  | .upper, .str _ => true
  | _, _ => false
/-- a method that changes a list: what it gives, the list behind it -/
def mutD : Mth → List D → List D → Option (D × List D)
  | .append, xs, [y] => if xs.length < 16777216 then some (.non, xs ++ [y]) else none
  | .pop, xs, [] => match xs.getLast? with
    | some y => some (y, xs.dropLast)
    | none => none
  | .popAt, xs, [.int i] => match ixN xs.length i with
    | some k => match xs[k]? with
      | some y => if -9223372036854775808 ≤ i ∧ i < 9223372036854775808 then some (y, xs.eraseIdx k) else none
      | none => none
    | none => none
  | .extend, xs, [.lst ys] => if xs.length + ys.length ≤ 16777216 then some (.non, xs ++ ys) else none
  | .insert, xs, [.int i, y] => if xs.length < 16777216 ∧ 0 ≤ i ∧ i < 9223372036854775808 then some (.non, xs.take i.toNat ++ [y] ++ xs.drop i.toNat) else none
  | .clear, _, [] => some (.non, [])
  | _, _, _ => none
def isMut : Mth → Bool
  | .append => true | .pop => true | .popAt => true | .extend => true | .insert => true | .clear => true
  | _ => false
def enumD : Nat → List D → List D
  | _, [] => []
  | k, d :: ds => .tup [.int (k : Int), d] :: enumD (k + 1) ds
def zipD : List D → List D → List D
  | x :: xs, y :: ys => .tup [x, y] :: zipD xs ys
  | _, _ => []
/-! ### the evaluator -/
inductive CR where
  | ok (fresh : Bool) (d : D) (c : List (List D)) | exc (n : Str) (c : List (List D))
inductive Fl where
  | nx (s : Sx) | brk (s : Sx) | cnt (s : Sx) | ret (r : R) (s : Sx) | exc (n : Str) (s : Sx)
abbrev Cf := Str → List Sl → List (List D) → Option CR
/-- len(set(xs)) -/
def lsetD : D → Option R
  | .lst ds => match intsOf ds with
    | some ns => if ns.length < 64 then some (.sh (.int ((firstMet (fun i => ns.getD i 0) ns.length).length : Nat))) else none
    | none => none
  | _ => none
/-- x not in range(n) -/
def nirD : D → D → Option R
  | .int i, .int j => some (.sh (.bl (!decide (0 ≤ i ∧ i < j))))
  | _, _ => none
def look2 (x y : R) (f : D → D → Option R) : M R := bd (lkp x) fun d => bd (lkp y) fun d' => op? (f d d')
def looks : List R → M (List D)
  | [] => pu []
  | r :: rs => bd (lkp r) fun d => bd (looks rs) fun ds => pu (d :: ds)
def slOf (s : Sx) : R → Option Sl
  | .sh d => some ⟨.sh, d⟩
  | .fr (.lst ds) => some ⟨.sh, .lst ds⟩
  | .fr _ => none
  | .nm i => match s.e[i]? with
    | some (some ⟨k, d⟩) => some ⟨if k = .ow then .lk else k, d⟩
    | _ => none
def slsOf (s : Sx) : List R → Option (List Sl)
  | [] => some []
  | r :: rs => match slOf s r, slsOf s rs with
    | some x, some xs => some (x :: xs)
    | _, _ => none
def args (share : Bool) (rs : List R) : M (List Sl) := match share with
  | true => bd (escs rs) fun ds => pu (ds.map fun d => ⟨.sh, d⟩)
  | false => fun s => op? (slsOf s rs) s
def runF (F : Cf) (f : Str) (as : List Sl) : M R := fun s => match F f as s.c with
  | none => none
  | some (.ok fr d c) => some (.ok (match fr with
    | true => .fr d
    | false => .sh d) { s with c := c })
  | some (.exc n c) => some (.exc n { s with c := c })
/-- .. of a list with an identity -/
def mutC (m : Mth) (n : Nat) (ds : List D) : M R := fun s => match s.c[n]? with
  | some xs => match mutD m xs ds with
    | some (y, ys) => some (.ok (.sh y) { s with c := s.c.set n ys })
    | none => none
  | none => none
def mutE (m : Mth) (x : R) (ds : List D) : M R := fun s => match x with
  | .nm i => match s.e[i]? with
    | some (some ⟨.ow, .lst xs⟩) => match mutD m xs ds with
      | some (y, ys) => some (.ok (.sh y) { s with e := s.e.set i (some ⟨.ow, .lst ys⟩) })
      | none => none
    | some (some ⟨.sh, .cel n⟩) => mutC m n ds s
    | _ => none
  | .sh (.cel n) => mutC m n ds s
  | _ => none
/-- the slot that is to be locked while its list is walked -/
def lkOf (s : Sx) : R → List Nat
  | .nm i => match s.e[i]? with
    | some (some ⟨k, _⟩) => if k = .ow then [i] else []
    | _ => []
  | _ => []
/-- no list with an identity -/
def plainR (s : Sx) : R → Bool
  | .sh (.cel _) => false
  | .nm i => match s.e[i]? with
    | some (some ⟨_, .cel _⟩) => false
    | _ => decide (i < 1000000)
  | _ => true
/-- which list with an identity -/
def celR (s : Sx) : R → Option Nat
  | .sh (.cel n) => some n
  | .nm i => match s.e[i]? with
    | some (some ⟨_, .cel n⟩) => some n
    | _ => none
  | _ => none
/-- the items of what a loop walks -/
def itsOf : D → Option (List D)
  | .str x => some (x.cps.toList.map fun c => .str ⟨#[c]⟩)
  | d => seqOf d
def seqR (r : R) : M (List D × List Nat) := fun s => if plainR s r then match look s r with
  | some d => match itsOf d with
    | some ds => some (.ok (ds, lkOf s r) s)
    | none => none
  | none => none else match celR s r with
  | some n => match s.c[n]? with
    | some ds => some (.ok (ds, [1000000 + n]) s)
    | none => none
  | none => none
def setK (i : Nat) (k : Kd) (s : Sx) : Sx := match s.e[i]? with
  | some (some sl) => { s with e := s.e.set i (some ⟨k, sl.d⟩) }
  | _ => s
def lock : List Nat → Sx → Sx
  | [], s => s
  | i :: is, s => if i < 1000000 then setK i .lk (lock is s) else lock is s
def unlock : List Nat → Sx → Sx
  | [], s => s
  | i :: is, s => unlock is (if i < 1000000 then setK i .ow s else s)
/-- a list with an identity that is walked stays as it is -/
def GdOk (ls : List Nat) (ds : List D) (s : Sx) : Prop := ∀ n, 1000000 + n ∈ ls → s.c[n]? = some ds
open Classical in
noncomputable def gdB (ls : List Nat) (ds : List D) (b : Sx → Option Fl) : Sx → Option Fl := fun s => match b s with
  | some (.nx s') => if GdOk ls ds s' then some (.nx s') else none
  | some (.cnt s') => if GdOk ls ds s' then some (.cnt s') else none
  | o => o
open Classical in
noncomputable def gdT {α : Type} (ls : List Nat) (ds : List D) (b : Sx → Option (Out α)) : Sx → Option (Out α) := fun s => match b s with
  | some (.ok a s') => if GdOk ls ds s' then some (.ok a s') else none
  | o => o
def Fl.map (f : Sx → Sx) : Fl → Fl
  | .nx s => .nx (f s)
  | .brk s => .brk (f s)
  | .cnt s => .cnt (f s)
  | .ret r s => .ret r (f s)
  | .exc n s => .exc n (f s)
def locked : Option (Option Sl) → Bool
  | some (some ⟨.lk, _⟩) => true
  | none => true
  | _ => false
/-- a name is given a value -/
def asgD (i : Nat) (k : Kd) (d : D) (s : Sx) : Option Sx := if locked s.e[i]? then none else some { s with e := s.e.set i (some ⟨k, d⟩) }
def asgs : List Nat → List D → Sx → Option Sx
  | [], [], s => some s
  | i :: is, d :: ds, s => match asgD i .sh d s with
    | some s' => asgs is ds s'
    | none => none
  | _, _, _ => none
def asgR (i : Nat) (r : R) (s : Sx) : Option Sx := match r with
  | .sh d => asgD i .sh d s
  | .fr d => asgD i .ow d s
  | .nm j => match esc (.nm j) s with
    | some (.ok d s') => asgD i .sh d s'
    | _ => none
def asgT : Tg → D → Sx → Option Sx
  | .nm i, d, s => asgD i .sh d s
  | .tp is, .tup ds, s => asgs is ds s
  | _, _, _ => none
def wipeE (e : List (Option Sl)) : List Nat → List (Option Sl)
  | [] => e
  | v :: vs => (wipeE e vs).set v none
/-- the block's own names as they were -/
def unwipe (e : List (Option Sl)) : List Nat → List (Option Sl) → List (Option Sl)
  | [], e' => e'
  | v :: vs, e' => (unwipe e vs e').set v (e.getD v none)
def noOwn (e : List (Option Sl)) : List Nat → Bool
  | [] => true
  | v :: vs => (match e[v]? with
    | some (some ⟨.sh, _⟩) => true
    | some none => true
    | _ => false) && noOwn e vs
/-- the turns of a comprehension -/
def lcL (t : Tg) (test : Sx → Option (Out Bool)) (elt : Sx → Option (Out D)) (vs : List Nat) : List D → List D → M (List D)
  | [], acc, s => some (.ok acc s)
  | d :: ds, acc, s => match asgT t d { s with e := wipeE s.e vs } with
    | none => none
    | some s1 => match test s1 with
      | some (.ok true s2) => match elt s2 with
        | some (.ok y s3) => if acc.length < 16777216 then lcL t test elt vs ds (acc ++ [y]) s3 else none
        | _ => none
      | some (.ok false s2) => lcL t test elt vs ds acc s2
      | _ => none
/-- .. of a comprehension whose element may raise -/
def lcLx (t : Tg) (elt : Sx → Option (Out D)) (vs : List Nat) : List D → List D → M (List D)
  | [], acc, s => some (.ok acc s)
  | d :: ds, acc, s => match asgT t d { s with e := wipeE s.e vs } with
    | none => none
    | some s1 => match elt s1 with
      | some (.ok y s3) => if acc.length < 16777216 then lcLx t elt vs ds (acc ++ [y]) s3 else none
      | some (.exc n s3) => some (.exc n s3)
      | none => none
/-- a new list is to have an identity -/
def celOfM (r : R) : M R := fun s => match r with
  | .fr (.lst ds) => some (.ok (.sh (.cel s.c.length)) { s with c := s.c ++ [ds] })
  | _ => none
def truM (r : R) : M Bool := bd (lkp r) fun d => op? (truD d)
def intO : R → M Int := fun r => bd (lkp r) fun d => op? (match d with
  | .int i => some i
  | _ => none)
mutual
noncomputable def evE (F : Cf) : Ex → M R
  | .var i => fun s => match s.e[i]? with
    | some (some _) => some (.ok (.nm i) s)
    | _ => none
  | .con d => pu (.sh d)
  | .bin o a b => bd (evE F a) fun x => bd (evE F b) fun y => look2 x y (bop o)
  | .neg a => bd (evE F a) fun x => bd (lkp x) fun d => op? (match d with
    | .int i => some (.sh (.int (-i)))
    | _ => none)
  | .nt a => bd (evE F a) fun x => bd (lkp x) fun d => op? (match d with
    | .bl c => some (.sh (.bl (!c)))
    | _ => none)
  | .an a b => bd (evE F a) fun x => bd (lkp x) fun d => match d with
    | .bl true => bd (evE F b) fun y => bd (lkp y) fun d' => op? (match d' with
      | .bl c => some (.sh (.bl c))
      | _ => none)
    | .bl false => pu (.sh (.bl false))
    | _ => fun _ => none
  | .orr a b => bd (evE F a) fun x => bd (lkp x) fun d => match d with
    | .bl false => bd (evE F b) fun y => bd (lkp y) fun d' => op? (match d' with
      | .bl c => some (.sh (.bl c))
      | _ => none)
    | .bl true => pu (.sh (.bl true))
    | _ => fun _ => none
  | .orv a b => bd (evE F a) fun x => bd (lkp x) fun d => match d with
    | .non => evE F b
    | .tup (d0 :: ds) => pu (.sh (.tup (d0 :: ds)))
    | _ => fun _ => none
  | .lset a => bd (evE F a) fun x => bd (lkp x) fun d => op? (lsetD d)
  | .nir a b => bd (evE F a) fun x => bd (evE F b) fun y => look2 x y nirD
  | .cmp o a b => bd (evE F a) fun x => bd (evE F b) fun y => look2 x y fun d d' => (cop o d d').map fun c => .sh (.bl c)
  | .ch o o' a b c => bd (evE F a) fun x => bd (evE F b) fun y => bd (look2 x y fun d d' => (cop o d d').map fun c => .sh (.bl c)) fun z => bd (lkp z) fun d => match d with
    | .bl true => bd (evE F c) fun u => look2 y u fun d d' => (cop o' d d').map fun c => .sh (.bl c)
    | .bl false => pu (.sh (.bl false))
    | _ => fun _ => none
  | .ch3 o o' o'' a b c e => bd (evE F a) fun x => bd (evE F b) fun y => bd (look2 x y fun d d' => (cop o d d').map fun c => .sh (.bl c)) fun z => bd (lkp z) fun d => match d with
    | .bl true => bd (evE F c) fun u => bd (look2 y u fun d d' => (cop o' d d').map fun c => .sh (.bl c)) fun z' => bd (lkp z') fun d' => match d' with
      | .bl true => bd (evE F e) fun v => look2 u v fun d d' => (cop o'' d d').map fun c => .sh (.bl c)
      | .bl false => pu (.sh (.bl false))
      | _ => fun _ => none
    | .bl false => pu (.sh (.bl false))
    | _ => fun _ => none
  | .ife t a b => bd (evE F t) fun x => bd (truM x) fun c => match c with
    | true => evE F a
    | false => evE F b
  | .tup es => bd (evAs F es) fun rs => bd (escs rs) fun ds => fun s => if ds.length ≤ 16777216 then some (.ok (.sh (.tup ds)) s) else none
  | .lst es => bd (evAs F es) fun rs => bd (escs rs) fun ds => fun s => if ds.length ≤ 16777216 then some (.ok (.fr (.lst ds)) s) else none
  | .cel es => bd (evAs F es) fun rs => bd (escs rs) fun ds => fun s => if ds.length ≤ 16777216 then some (.ok (.sh (.cel s.c.length)) { s with c := s.c ++ [ds] }) else none
  | .celOf a => bd (evE F a) fun x => celOfM x
  | .ix a b => bd (evE F a) fun x => bd (evE F b) fun y => bd (lkp x) fun d => bd (lkp y) fun d' => op? ((ixD d d').map .sh)
  | .sl a lo hi => bd (evE F a) fun x => bd (evO F lo) fun l => bd (evO F hi) fun h => bd (lkp x) fun d => op? (slD d l h)
  | .rev a => bd (evE F a) fun x => bd (lkp x) fun d => op? (revD d)
  | .call share f es => bd (evAs F es) fun rs => bd (args share rs) fun as => runF F f as
  | .callV i fs es => fun s => match s.e[i]? with
    | some (some ⟨.sh, .fn f⟩) => if fs.contains f then bd (evAs F es) (fun rs => bd (args false rs) fun as => runF F f as) s else none
    | _ => none
  | .blt f es => bd (evAs F es) fun rs => bd (looks rs) fun ds => op? (bltD f ds)
  | .isi a ts => bd (evE F a) fun x => bd (lkp x) fun d => op? ((isD d ts).map fun b => .sh (.bl b))
  | .isx a tab => bd (evE F a) fun x => bd (lkp x) fun d => op? (isxD tab d)
  | .mt m a es => bd (evE F a) fun x => bd (lkp x) fun d => match isMut m with
    | true => match d with
      | .lst _ => bd (evAs F es) fun rs => bd (escs rs) fun ds => mutE m x ds
      | _ => fun _ => none
    | false => match mthK m d with
      | true => bd (evAs F es) fun rs => bd (looks rs) fun ds => bd (lkp x) fun d' => op? (mthD m d' ds)
      | false => fun _ => none
  | .dnew => pu (.fr (.dct []))
  | .lc own e t src test => bd (evSrc F src) fun p => fun s => if noOwn (lock p.2 s).e own then
      match lcL t (gdT p.2 p.1 (evC F test)) (gdT p.2 p.1 (bd (evE F e) esc)) own p.1 [] (lock p.2 s) with
      | some (.ok ys s') => some (.ok (.fr (.lst ys)) (unlock p.2 { s' with e := unwipe (lock p.2 s).e own s'.e }))
      | _ => none
    else none
  | .lcx own e t src => bd (evSrc F src) fun p => fun s => if noOwn (lock p.2 s).e own then
      match lcLx t (gdT p.2 p.1 (bd (evE F e) esc)) own p.1 [] (lock p.2 s) with
      | some (.ok ys s') => some (.ok (.fr (.lst ys)) (unlock p.2 { s' with e := unwipe (lock p.2 s).e own s'.e }))
      | some (.exc n s') => some (.exc n (unlock p.2 { s' with e := unwipe (lock p.2 s).e own s'.e }))
      | none => none
    else none
noncomputable def evAs (F : Cf) : Exs → M (List R)
  | .nil => pu []
  | .cons e r => bd (evE F e) fun x => bd (evAs F r) fun xs => pu (x :: xs)
noncomputable def evO (F : Cf) : Exo → M (Option Int)
  | .none => pu none
  | .some e => bd (evE F e) fun x => bd (intO x) fun i => pu (some i)
noncomputable def evC (F : Cf) : Exo → M Bool
  | .none => pu true
  | .some e => bd (evE F e) truM
noncomputable def evSrc (F : Cf) : Src → M (List D × List Nat)
  | .seq e => bd (evE F e) seqR
  | .rng es => bd (evAs F es) fun rs => bd (looks rs) fun ds => op? ((rngD ds).map fun l => (l, []))
  | .enu e => bd (evE F e) fun r => bd (lkp r) fun d => fun s => if plainR s r then match lstOf d with
    | some ds => some (.ok (enumD 0 ds, lkOf s r) s)
    | none => none else none
  | .zip a b => bd (evE F a) fun x => bd (evE F b) fun y => bd (lkp x) fun d => bd (lkp y) fun d' => fun s => match lstOf d, lstOf d' with
    | some xs, some ys => if lkOf s x = [] ∧ lkOf s y = [] ∧ plainR s x = true ∧ plainR s y = true then some (.ok (zipD xs ys, []) s) else none
    | _, _ => match d, d' with
      | .tup xs, .tup ys => some (.ok (zipD xs ys, []) s)
      | _, _ => none
end
/-- the turns of a for -/
def forL (t : Tg) (body : Sx → Option Fl) : List D → Sx → Option Fl
  | [], s => some (.nx s)
  | d :: ds, s => match asgT t d s with
    | none => none
    | some s1 => match body s1 with
      | some (.nx s2) => forL t body ds s2
      | some (.cnt s2) => forL t body ds s2
      | some (.brk s2) => some (.nx s2)
      | some (.ret r s2) => some (.ret r s2)
      | some (.exc n s2) => some (.exc n s2)
      | none => none
/-- the turns of a while: so many at most -/
def whlL (test : M Bool) (body : Sx → Option Fl) : Nat → Sx → Option Fl
  | 0, _ => none
  | n + 1, s => match test s with
    | some (.ok true s1) => match body s1 with
      | some (.nx s2) => whlL test body n s2
      | some (.cnt s2) => whlL test body n s2
      | some (.brk s2) => some (.nx s2)
      | some (.ret r s2) => some (.ret r s2)
      | some (.exc n s2) => some (.exc n s2)
      | none => none
    | some (.ok false s1) => some (.nx s1)
    | some (.exc n s1) => some (.exc n s1)
    | none => none
/-- a bound for a while's turns: any -/
def wf : Nat := 1152921504606846976
def outS {α : Type} (o : Option (Out α)) (f : α → Sx → Option Fl) : Option Fl := match o with
  | none => none
  | some (.ok a s) => f a s
  | some (.exc n s) => some (.exc n s)
def nxO : Option Sx → Option Fl
  | some s => some (.nx s)
  | none => none
def augD : Bop → Int → Int → Option Int
  | .add, x, y => some (x + y)
  | .sub, x, y => some (x - y)
  | _, _, _ => none
def intD : D → Option Int
  | .int k => some k
  | _ => none
def setC (n : Nat) (k : D) (y : D) (s : Sx) : Option Fl := match s.c[n]?, intD k with
  | some xs, some k => match ixN xs.length k with
    | some j => some (.nx { s with c := s.c.set n (xs.set j y) })
    | none => none
  | _, _ => none
def setL (i : Nat) (k : D) (y : D) (s : Sx) : Option Fl := match s.e[i]? with
  | some (some ⟨.ow, .lst xs⟩) => match intD k with
    | some k => match ixN xs.length k with
      | some j => some (.nx { s with e := s.e.set i (some ⟨.ow, .lst (xs.set j y)⟩) })
      | none => none
    | none => none
  | some (some ⟨.ow, .dct kvs⟩) => match keyD k, dV y with
    | some k, some v => if kvs.length < 16777216 then some (.nx { s with e := s.e.set i (some ⟨.ow, .dct (putK kvs k v)⟩) }) else none
    | _, _ => none
  | some (some ⟨.sh, .cel n⟩) => setC n k y s
  | _ => none
def setR : R → D → D → Sx → Option Fl
  | .nm i, k, y, s => setL i k y s
  | .sh (.cel n), k, y, s => setC n k y s
  | _, _, _, _ => none
/-- d[k] op= y -/
def augL (i : Nat) (k : D) (o : Bop) (y : Int) (s : Sx) : Option Fl := match s.e[i]? with
  | some (some ⟨.ow, .dct kvs⟩) => match keyD k with
    | some k => match valV kvs k with
      | some (.int x) => match augD o x y with
        | some z => if kvs.length < 16777216 then some (.nx { s with e := s.e.set i (some ⟨.ow, .dct (putK kvs k (.int z))⟩) }) else none
        | none => none
      | _ => none
    | none => none
  | _ => none
/-- a stored slice of an own list -/
def setSl : R → Option Int → Option Int → D → Sx → Option Fl
  | .nm i, some a, some b, .lst ys, s => match s.e[i]? with
    | some (some ⟨.ow, .lst xs⟩) => if (0 ≤ a ∧ a ≤ b ∧ b ≤ xs.length) ∧ xs.length + ys.length ≤ 16777216 then some (.nx { s with e := s.e.set i (some ⟨.ow, .lst (xs.take a.toNat ++ ys ++ xs.drop b.toNat)⟩) }) else none
    | _ => none
  | _, _, _, _, _ => none
def uS : Us → Sx → Option Sx
  | .setL i bs, s => asgD i .ow (.lst (bs.map D.bl)) s
  | .addL i bs, s => match s.e[i]? with
    | some (some ⟨.ow, .lst xs⟩) => if xs.length + bs.length ≤ 16777216 then asgD i .ow (.lst (xs ++ bs.map D.bl)) s else none
    | _ => none
  | .app i b, s => match s.e[i]? with
    | some (some ⟨.ow, .lst xs⟩) => if xs.length < 16777216 then some { s with e := s.e.set i (some ⟨.ow, .lst (xs ++ [.bl b])⟩) } else none
    | _ => none
  | .non i, s => asgD i .sh .non s
def uSs : List Us → Sx → Option Sx
  | [], s => some s
  | u :: us, s => match uS u s with
    | some s' => uSs us s'
    | none => none
mutual
noncomputable def evS (F : Cf) : St → Sx → Option Fl
  | .set i e, s => outS (evE F e s) fun r s1 => nxO (asgR i r s1)
  | .setT js e, s => outS (bd (evE F e) lkp s) fun d s1 => match d with
    | .tup ds => nxO (asgs js ds s1)
    | .lst ds => nxO (asgs js ds s1)
    | _ => none
  | .setP i j a b, s => outS (bd (evE F a) (fun x => bd (evE F b) fun y => bd (esc x) fun d => bd (esc y) fun d' => pu (d, d')) s) fun p s1 => match asgD j .sh p.2 s1 with
    | some s2 => nxO (asgD i .sh p.1 s2)
    | none => none
  | .setI o i e, s => outS (bd (evE F e) esc s) fun y s1 => outS (bd (evE F o) (fun x => bd (evE F i) fun z => bd (lkp z) fun k => pu (x, k)) s1) fun p s2 => setR p.1 p.2 y s2
  | .setS o lo hi e, s => outS (bd (evE F e) esc s) fun y s1 => outS (bd (evE F o) (fun x => bd (evO F lo) fun a => bd (evO F hi) fun b => pu (x, a, b)) s1) fun p s2 => setSl p.1 p.2.1 p.2.2 y s2
  | .aug i o e, s => match s.e[i]? with
    | some (some ⟨.sh, .int x⟩) => outS (bd (evE F e) intO s) fun y s1 => match augD o x y with
      | some z => nxO (asgD i .sh (.int z) s1)
      | none => none
    | _ => none
  | .augI i b o j, s => match s.e[i]? with
    | some (some ⟨.ow, .dct _⟩) => outS (bd (evE F b) lkp s) fun k s1 => augL i k o j s1
    | _ => none
  | .ex e, s => outS (evE F e s) fun _ s1 => some (.nx s1)
  | .ret e, s => outS (evE F e s) fun r s1 => some (.ret r s1)
  | .retN, s => some (.ret (.sh .non) s)
  | .ifs t a b, s => outS (bd (evE F t) truM s) fun c s1 => match c with
    | true => evSs F a s1
    | false => evSs F b s1
  | .whl t b, s => whlL (bd (evE F t) truM) (evSs F b) wf s
  | .for t src b, s => outS (evSrc F src s) fun p s1 => match forL t (gdB p.2 p.1 (evSs F b)) p.1 (lock p.2 s1) with
    | some f => some (f.map (unlock p.2))
    | none => none
  | .rai n, s => some (.exc n s)
  | .pas, s => some (.nx s)
  | .brk, s => some (.brk s)
  | .cnt, s => some (.cnt s)
  | .tryx b x h, s => match evSs F b s with
    | some (.exc n s1) => match h.lookup n with
      | some us => match s1.e[x]?, uSs us s1 with
        | some none, some s2 => match s2.e[x]? with
          | some none => some (.nx s2)
          | _ => none
        | _, _ => none
      | none => none
    | r => r
  | .tryb b x i ns, s => match evSs F b s with
    | some (.exc n s1) => if ns.contains n then match s1.e[x]? with
      | some none => nxO (asgD i .sh (.err n) s1)
      | _ => none else none
    | r => r
noncomputable def evSs (F : Cf) : Sts → Sx → Option Fl
  | .nil, s => some (.nx s)
  | .cons a r, s => match evS F a s with
    | some (.nx s1) => evSs F r s1
    | x => x
end
/-! ### defs -/
structure Fn where
  np : Nat
  nl : Nat
  body : Sts
abbrev Tbl := Str → Option Fn
def startE (as : List Sl) (nl : Nat) : List (Option Sl) := as.map some ++ List.replicate (nl - as.length) none
def fin : Option Fl → Option CR
  | some (.nx s) => some (.ok false .non s.c)
  | some (.ret (.sh d) s) => some (.ok false d s.c)
  | some (.ret (.fr d) s) => some (.ok true d s.c)
  | some (.ret (.nm i) s) => match s.e[i]? with
    | some (some ⟨.ow, d⟩) => some (.ok true d s.c)
    | some (some ⟨.sh, d⟩) => some (.ok false d s.c)
    | _ => none
  | some (.exc n s) => some (.exc n s.c)
  | _ => none
noncomputable def callD (T : Tbl) : Nat → Cf
  | 0, _, _, _ => none
  | k + 1, f, as, c => match T f with
    | none => none
    | some G => if as.length = G.np then fin (evSs (callD T k) G.body { e := startE as G.nl, c := c }) else none
end PV
/-! Data and the abstract heap. -/
namespace PV
open PySem PySem.Spec PyProof.Rows L2
/-- what stands still (and only grows), and the cells' places -/
structure Wr where
  G : Hp
  ca : List Addr
mutual
def Rep (K : PySem.W.Frag) (w : Wr) : D → V → Prop
  | .non, v => v = .non
  | .bl b, v => v = .bl b
  | .int i, v => v = .int i
  | .str x, v => v = .str x
  | .lst ds, v => ∃ a vs, v = .ref a ∧ w.G a = some (.lst vs) ∧ Reps K w ds vs
  | .fl ds, v => ∃ a vs, v = .ref a ∧ SqL K w.G a vs ∧ Reps K w ds vs
  | .tup ds, v => ∃ a vs, v = .ref a ∧ SqT K w.G a vs ∧ Reps K w ds vs
  | .dct _, _ => False
  | .cel n, v => ∃ a, w.ca[n]? = some a ∧ v = .ref a
  | .fn f, v => ∃ a, v = .ref a ∧ PySem.W.nsIn K mainGlobals f = some (some (.ref a))
  | .err n, v => ∃ a oe D, v = .ref a ∧ w.G a = some (.ext fun h => h.get? a = some oe) ∧ PySem.W.nsIn K mainGlobals n = some (some (.ref D)) ∧ Zc (.ref D) none oe ∧ ∃ vs, oe.data = .fields vs
def Reps (K : PySem.W.Frag) (w : Wr) : List D → List V → Prop
  | [], vs => vs = []
  | d :: ds, vs => ∃ v r, vs = v :: r ∧ Rep K w d v ∧ Reps K w ds r
end
section
variable {K : PySem.W.Frag} {w w' : Wr}
theorem Reps.len : ∀ {ds : List D} {vs : List V}, Reps K w ds vs → vs.length = ds.length
  | [], vs, h => by unfold Reps at h; subst h; rfl
  | d :: ds, vs, h => by
    unfold Reps at h
    obtain ⟨v, r, rfl, _, h⟩ := h
    rw [List.length_cons, List.length_cons, Reps.len h]
theorem Reps.get : ∀ {ds : List D} {vs : List V} {i : Nat} {d : D}, Reps K w ds vs → ds[i]? = some d → ∃ v, vs[i]? = some v ∧ Rep K w d v
  | [], vs, i, d, h, e => by simp at e
  | d :: ds, vs, 0, d', h, e => by
    unfold Reps at h
    obtain ⟨v, r, rfl, h1, h⟩ := h
    simp only [List.getElem?_cons_zero, Option.some.injEq] at e
    subst e
    exact ⟨v, rfl, h1⟩
  | d :: ds, vs, i + 1, d', h, e => by
    unfold Reps at h
    obtain ⟨v, r, rfl, h1, h⟩ := h
    rw [List.getElem?_cons_succ] at e
    obtain ⟨v', e', h'⟩ := Reps.get h e
    exact ⟨v', by rw [List.getElem?_cons_succ]; exact e', h'⟩
theorem Reps.of : ∀ {ds : List D} {vs : List V}, vs.length = ds.length → (∀ (i : Nat) d v, ds[i]? = some d → vs[i]? = some v → Rep K w d v) → Reps K w ds vs
  | [], vs, h, _ => by unfold Reps; exact List.length_eq_zero_iff.mp h
  | d :: ds, [], h, _ => by simp at h
  | d :: ds, v :: r, h, f => by
    unfold Reps
    refine ⟨v, r, rfl, f 0 d v rfl rfl, Reps.of (by simpa using h) fun i d' v' h1 h2 => f (i + 1) d' v' (by simpa using h1) (by simpa using h2)⟩
theorem Reps.at {ds : List D} {vs : List V} {i : Nat} {d : D} {v : V} (h : Reps K w ds vs) (e : ds[i]? = some d) (e' : vs[i]? = some v) : Rep K w d v := by
  obtain ⟨v', e2, r⟩ := h.get e
  rw [e'] at e2; cases e2; exact r
theorem Reps.nil : Reps K w [] [] := by unfold Reps; rfl
theorem Reps.cons {d : D} {ds : List D} {v : V} {vs : List V} (h1 : Rep K w d v) (h2 : Reps K w ds vs) : Reps K w (d :: ds) (v :: vs) := by
  unfold Reps; exact ⟨v, vs, rfl, h1, h2⟩
theorem Reps.app : ∀ {ds ds' : List D} {vs vs' : List V}, Reps K w ds vs → Reps K w ds' vs' → Reps K w (ds ++ ds') (vs ++ vs')
  | [], ds', vs, vs', h, h' => by unfold Reps at h; subst h; exact h'
  | d :: ds, ds', vs, vs', h, h' => by
    unfold Reps at h
    obtain ⟨v, r, rfl, h1, h⟩ := h
    exact Reps.cons h1 (Reps.app h h')
theorem Reps.one {d : D} {v : V} (h : Rep K w d v) : Reps K w [d] [v] := Reps.cons h Reps.nil
theorem Reps.drop {ds : List D} {vs : List V} (h : Reps K w ds vs) (n : Nat) : Reps K w (ds.drop n) (vs.drop n) :=
  .of (by rw [List.length_drop, List.length_drop, h.len]) fun i d v h1 h2 => by
    rw [List.getElem?_drop] at h1 h2
    exact h.at h1 h2
theorem Reps.take {ds : List D} {vs : List V} (h : Reps K w ds vs) (n : Nat) : Reps K w (ds.take n) (vs.take n) :=
  .of (by rw [List.length_take, List.length_take, h.len]) fun i d v h1 h2 => by
    by_cases hi : i < n
    · rw [List.getElem?_take_of_lt hi] at h1 h2
      exact h.at h1 h2
    · rw [List.getElem?_take, if_neg hi] at h1; cases h1
theorem Reps.set {ds : List D} {vs : List V} {d : D} {v : V} (h : Reps K w ds vs) (hd : Rep K w d v) (n : Nat) : Reps K w (ds.set n d) (vs.set n v) :=
  .of (by rw [List.length_set, List.length_set, h.len]) fun i d' v' h1 h2 => by
    rw [List.getElem?_set] at h1 h2
    by_cases hi : n = i
    · rw [if_pos hi] at h1 h2
      split at h1
      · split at h2
        · cases h1; cases h2; exact hd
        · cases h2
      · cases h1
    · rw [if_neg hi] at h1 h2
      exact h.at h1 h2
theorem Reps.rev {ds : List D} {vs : List V} (h : Reps K w ds vs) : Reps K w ds.reverse vs.reverse :=
  .of (by rw [List.length_reverse, List.length_reverse, h.len]) fun i d v h1 h2 => by
    by_cases hi : i < ds.length
    · rw [List.getElem?_reverse hi] at h1
      rw [List.getElem?_reverse (by rw [h.len]; exact hi), h.len] at h2
      exact h.at h1 h2
    · rw [List.getElem?_eq_none (by rw [List.length_reverse]; omega)] at h1; cases h1
theorem Reps.rep {ds : List D} {vs : List V} (h : Reps K w ds vs) : ∀ k : Nat, Reps K w (List.replicate k ds).flatten (List.replicate k vs).flatten
  | 0 => Reps.nil
  | k + 1 => by
    rw [List.replicate_succ, List.replicate_succ, List.flatten_cons, List.flatten_cons]
    exact h.app (h.rep k)
/-- growing -/
structure Gr (w w' : Wr) : Prop where
  g : ∀ a o, w.G a = some o → w'.G a = some o
  c : ∃ l, w'.ca = w.ca ++ l
theorem Gr.refl : Gr w w := ⟨fun _ _ h => h, [], by simp⟩
theorem Gr.trans {w'' : Wr} (a : Gr w w') (b : Gr w' w'') : Gr w w'' := ⟨fun x o h => b.g x o (a.g x o h), by
  obtain ⟨l, e⟩ := a.c
  obtain ⟨l', e'⟩ := b.c
  exact ⟨l ++ l', by rw [e', e, List.append_assoc]⟩⟩
theorem Gr.cell (a : Gr w w') {n : Nat} {x : Addr} (h : w.ca[n]? = some x) : w'.ca[n]? = some x := by
  obtain ⟨l, e⟩ := a.c
  rw [e, List.getElem?_append_left (List.getElem?_eq_some_iff.mp h).1]
  exact h
theorem sqL_mono {H H' : Hp} {a : Addr} {xs : List V} (g : ∀ a o, H a = some o → H' a = some o) (h : SqL K H a xs) : SqL K H' a xs := Same.seq (fun b o e => g b o e) h
theorem sqT_mono {H H' : Hp} {a : Addr} {xs : List V} (g : ∀ a o, H a = some o → H' a = some o) (h : SqT K H a xs) : SqT K H' a xs := by
  rcases h with (h | ⟨o, h⟩) | h
  · exact .inl (.inl (g _ _ h))
  · exact .inl (.inr ⟨o, g _ _ h⟩)
  · exact .inr h
mutual
theorem Rep.mono (g : Gr w w') : ∀ {d : D} {v : V}, Rep K w d v → Rep K w' d v
  | .non, _, h => by unfold Rep at h ⊢; exact h
  | .bl _, _, h => by unfold Rep at h ⊢; exact h
  | .int _, _, h => by unfold Rep at h ⊢; exact h
  | .str _, _, h => by unfold Rep at h ⊢; exact h
  | .lst ds, v, h => by
    unfold Rep at h ⊢
    obtain ⟨a, vs, e, h1, h2⟩ := h
    exact ⟨a, vs, e, g.g _ _ h1, Reps.mono g h2⟩
  | .fl ds, v, h => by
    unfold Rep at h ⊢
    obtain ⟨a, vs, e, h1, h2⟩ := h
    exact ⟨a, vs, e, sqL_mono g.g h1, Reps.mono g h2⟩
  | .tup ds, v, h => by
    unfold Rep at h ⊢
    obtain ⟨a, vs, e, h1, h2⟩ := h
    exact ⟨a, vs, e, sqT_mono g.g h1, Reps.mono g h2⟩
  | .dct _, _, h => by unfold Rep at h; exact h.elim
  | .cel n, _, h => by
    unfold Rep at h ⊢
    obtain ⟨a, h1, h2⟩ := h
    exact ⟨a, g.cell h1, h2⟩
  | .fn f, _, h => by
    unfold Rep at h ⊢
    exact h
  | .err n, _, h => by
    unfold Rep at h ⊢
    obtain ⟨a, oe, D, e, h1, h2⟩ := h
    exact ⟨a, oe, D, e, g.g _ _ h1, h2⟩
theorem Reps.mono (g : Gr w w') : ∀ {ds : List D} {vs : List V}, Reps K w ds vs → Reps K w' ds vs
  | [], _, h => by unfold Reps at h ⊢; exact h
  | d :: ds, _, h => by
    unfold Reps at h ⊢
    obtain ⟨v, r, e, h1, h2⟩ := h
    exact ⟨v, r, e, Rep.mono g h1, Reps.mono g h2⟩
end
end
/-- what one's own address holds -/
def Own (K : PySem.W.Frag) (w : Wr) (H : Hp) (a : Addr) : D → Prop
  | .lst ds => ∃ vs, H a = some (.lst vs) ∧ Reps K w ds vs
  | .dct kvs => H a = some (.dK kvs)
  | _ => False
theorem Own.mono {K : PySem.W.Frag} {w w' : Wr} {H H' : Hp} {a : Addr} {d : D} (g : Gr w w') (e : H' a = H a) (h : Own K w H a d) : Own K w' H' a d := by
  cases d with
  | lst ds => obtain ⟨vs, h1, h2⟩ := h; exact ⟨vs, e.trans h1, h2.mono g⟩
  | dct kvs => exact Eq.trans e h
  | _ => exact h
theorem Own.there {K : PySem.W.Frag} {w : Wr} {H : Hp} {a : Addr} {d : D} (h : Own K w H a d) : ∃ o, H a = some o := by
  cases d with
  | lst ds => obtain ⟨vs, h1, h2⟩ := h; exact ⟨_, h1⟩
  | dct kvs => exact ⟨_, h⟩
  | _ => exact h.elim
/-- own and shared in one: what is read -/
theorem Own.lst {K : PySem.W.Frag} {w : Wr} {H : Hp} {a : Addr} {ds : List D} (h : Own K w H a (.lst ds)) : ∃ vs, H a = some (.lst vs) ∧ Reps K w ds vs := h
/-- the state and the heap. B: what is not touched; L: the locked slots' places -/
structure Rel (K : PySem.W.Frag) (B : Hp) (L : Nat → Option Addr) (w : Wr) (s : Sx) (σ : L2.St) (H : Hp) : Prop where
  gh : ∀ a o, w.G a = some o → H a = some o
  bh : ∀ a o, B a = some o → H a = some o
  len : s.e.length = σ.length
  sh : ∀ (i : Nat) d, s.e[i]? = some (some ⟨.sh, d⟩) → ∃ v, σ[i]? = some (some v) ∧ Rep K w d v
  ow : ∀ (i : Nat) d, s.e[i]? = some (some ⟨.ow, d⟩) → ∃ a, σ[i]? = some (some (.ref a)) ∧ w.G a = none ∧ B a = none ∧ a ∉ w.ca ∧ Own K w H a d
  lk : ∀ (i : Nat) d, s.e[i]? = some (some ⟨.lk, d⟩) → ∃ a, σ[i]? = some (some (.ref a)) ∧ w.G a = none ∧ B a ≠ none ∧ L i = some a ∧ Own K w H a d
  lk' : ∀ (i : Nat) a, L i = some a → ∃ d, s.e[i]? = some (some ⟨.lk, d⟩)
  inj : ∀ (i j : Nat) d d' a, s.e[i]? = some (some ⟨.ow, d⟩) → s.e[j]? = some (some ⟨.ow, d'⟩) → σ[i]? = some (some (.ref a)) → σ[j]? = some (some (.ref a)) → i = j
  cn : w.ca.Nodup
  cl : ∀ (n : Nat) ds, s.c[n]? = some ds → ∃ a vs, w.ca[n]? = some a ∧ H a = some (.lst vs) ∧ Reps K w ds vs
  cf : ∀ a, a ∈ w.ca → w.G a = none ∧ B a = none
  clen : s.c.length = w.ca.length
structure Ext (B : Hp) (w w' : Wr) : Prop extends Gr w w' where
  f : ∀ a, B a ≠ none → w'.G a = w.G a
theorem Ext.refl {B : Hp} {w : Wr} : Ext B w w := ⟨Gr.refl, fun _ _ => rfl⟩
theorem Ext.trans {B : Hp} {w w' w'' : Wr} (a : Ext B w w') (b : Ext B w' w'') : Ext B w w'' := ⟨a.toGr.trans b.toGr, fun x h => (b.f x h).trans (a.f x h)⟩
theorem Ext.sub {B B' : Hp} {w w' : Wr} (a : Ext B w w') (h : ∀ a, B' a ≠ none → B a ≠ none) : Ext B' w w' := ⟨a.toGr, fun x hx => a.f x (h x hx)⟩
/-- an expression's value -/
def ResOk (K : PySem.W.Frag) (B : Hp) (w : Wr) (s : Sx) (σ : L2.St) (H : Hp) : R → V → Prop
  | .sh d, v => Rep K w d v
  | .fr d, v => ∃ a, v = .ref a ∧ w.G a = none ∧ B a = none ∧ a ∉ w.ca ∧ Own K w H a d ∧ ∀ (i : Nat) d', s.e[i]? = some (some ⟨.ow, d'⟩) → σ[i]? ≠ some (some (.ref a))
  | .nm i, v => σ[i]? = some (some v)
/-- .. that nobody owns any more -/
def OpOk (K : PySem.W.Frag) (w : Wr) (σ : L2.St) : R → V → Prop
  | .sh d, v => Rep K w d v
  | .fr (.lst ds), v => Rep K w (.lst ds) v
  | .fr _, _ => True
  | .nm i, v => σ[i]? = some (some v)
section
variable {K : PySem.W.Frag} {B : Hp} {L : Nat → Option Addr} {w w' : Wr} {s s' : Sx} {σ : L2.St} {H H' : Hp}
theorem hp_none {H H' : Hp} (g : ∀ a o, H a = some o → H' a = some o) {a : Addr} (h : H' a = none) : H a = none := by
  cases e : H a with
  | none => rfl
  | some o => rw [g a o e] at h; cases h
/-- a new thing that is laid beside -/
theorem Rel.beside (r : Rel K B L w s σ H) {p : Addr} {o : HO} (hp : H p = none) : Rel K B L w s σ (upd H p o) where
  gh := fun a o' h => by rw [upd_ne (ne_of_none (r.gh a o' h) hp)]; exact r.gh a o' h
  bh := fun a o' h => by rw [upd_ne (ne_of_none (r.bh a o' h) hp)]; exact r.bh a o' h
  len := r.len
  sh := r.sh
  ow := fun i d h => by
    obtain ⟨a, h1, h2, h3, h4, h5⟩ := r.ow i d h
    obtain ⟨o', e⟩ := h5.there
    exact ⟨a, h1, h2, h3, h4, h5.mono Gr.refl (upd_ne (ne_of_none e hp))⟩
  lk := fun i d h => by
    obtain ⟨a, h1, h2, h3, h4, h5⟩ := r.lk i d h
    obtain ⟨o', e⟩ := h5.there
    exact ⟨a, h1, h2, h3, h4, h5.mono Gr.refl (upd_ne (ne_of_none e hp))⟩
  lk' := r.lk'
  inj := r.inj
  cn := r.cn
  cl := fun n ds h => by
    obtain ⟨a, vs, h1, h2, h3⟩ := r.cl n ds h
    exact ⟨a, vs, h1, by rw [upd_ne (ne_of_none h2 hp)]; exact h2, h3⟩
  cf := r.cf
  clen := r.clen
/-- the cells are there -/
theorem Rel.cellThere (r : Rel K B L w s σ H) {a : Addr} (h : a ∈ w.ca) : ∃ vs, H a = some (.lst vs) := by
  obtain ⟨n, hn, e⟩ := List.mem_iff_getElem.mp h
  have hc : n < s.c.length := by rw [r.clen]; exact hn
  obtain ⟨a', vs, h1, h2, _⟩ := r.cl n _ (List.getElem?_eq_getElem hc)
  rw [List.getElem?_eq_getElem hn, e] at h1
  cases h1
  exact ⟨vs, h2⟩
theorem Rel.freshNot (r : Rel K B L w s σ H) {p : Addr} (hp : H p = none) : w.G p = none ∧ B p = none ∧ p ∉ w.ca := by
  refine ⟨hp_none r.gh hp, hp_none r.bh hp, fun h => ?_⟩
  obtain ⟨vs, e⟩ := r.cellThere h
  rw [hp] at e; cases e
theorem Rel.freshNotOw (r : Rel K B L w s σ H) {p : Addr} (hp : H p = none) (i : Nat) (d : D) (h : s.e[i]? = some (some ⟨.ow, d⟩)) : σ[i]? ≠ some (some (.ref p)) := fun e => by
  obtain ⟨a, h1, _, _, _, h5⟩ := r.ow i d h
  rw [h1] at e
  cases e
  obtain ⟨o, e⟩ := h5.there
  rw [hp] at e; cases e
/-- the still part grows by a thing that none owns -/
theorem Rel.still (r : Rel K B L w s σ H) {p : Addr} {o : HO} (ho : H p = some o) (hg : w.G p = none) (hb : B p = none) (hc : p ∉ w.ca) (hn : ∀ (i : Nat) d, s.e[i]? = some (some ⟨.ow, d⟩) → σ[i]? ≠ some (some (.ref p))) :
    Rel K B L { w with G := upd w.G p o } s σ H ∧ Ext B w { w with G := upd w.G p o } := by
  have gr : Gr w { w with G := upd w.G p o } := ⟨fun a o' h => by
    show upd w.G p o a = some o'
    rw [upd_ne (ne_of_none h hg)]; exact h, [], by simp⟩
  have ex : Ext B w { w with G := upd w.G p o } := ⟨gr, fun a h => upd_ne (fun e => h (by rw [e]; exact hb))⟩
  refine ⟨⟨fun a o' h => ?_, r.bh, r.len, fun i d h => ?_, fun i d h => ?_, fun i d h => ?_, r.lk', r.inj, r.cn, fun n ds h => ?_, fun a h => ?_, r.clen⟩, ex⟩
  · by_cases e : a = p
    · subst e
      have h' : upd w.G a o a = some o' := h
      rw [upd_same] at h'; cases h'; exact ho
    · exact r.gh a o' (by have h' : upd w.G p o a = some o' := h; rw [upd_ne e] at h'; exact h')
  · obtain ⟨v, h1, h2⟩ := r.sh i d h
    exact ⟨v, h1, h2.mono gr⟩
  · obtain ⟨a, h1, h2, h3, h4, h5⟩ := r.ow i d h
    refine ⟨a, h1, ?_, h3, h4, h5.mono gr rfl⟩
    show upd w.G p o a = none
    rw [upd_ne (fun e => hn i d h (by rw [← e]; exact h1))]; exact h2
  · obtain ⟨a, h1, h2, h3, h4, h5⟩ := r.lk i d h
    refine ⟨a, h1, ?_, h3, h4, h5.mono gr rfl⟩
    show upd w.G p o a = none
    rw [upd_ne (fun e => h3 (by rw [e]; exact hb))]; exact h2
  · obtain ⟨a, vs, h1, h2, h3⟩ := r.cl n ds h
    exact ⟨a, vs, h1, h2, h3.mono gr⟩
  · refine ⟨?_, (r.cf a h).2⟩
    show upd w.G p o a = none
    rw [upd_ne (fun e => hc (by rw [← e]; exact h))]; exact (r.cf a h).1
/-- a new thing for all -/
theorem Rel.laid (r : Rel K B L w s σ H) {p : Addr} {o : HO} (hp : H p = none) :
    Rel K B L { w with G := upd w.G p o } s σ (upd H p o) ∧ Ext B w { w with G := upd w.G p o } := by
  obtain ⟨h1, h2, h3⟩ := r.freshNot hp
  exact (r.beside (o := o) hp).still upd_same h1 h2 h3 fun i d h => r.freshNotOw hp i d h
/-- a result is owned by none any more -/
theorem Rel.norm (r : Rel K B L w s σ H) {x : R} {v : V} (h : ResOk K B w s σ H x v) : ∃ w', Ext B w w' ∧ Rel K B L w' s σ H ∧ OpOk K w' σ x v := by
  cases x with
  | sh d => exact ⟨w, Ext.refl, r, h⟩
  | nm i => exact ⟨w, Ext.refl, r, h⟩
  | fr d =>
    obtain ⟨a, rfl, h1, h2, h3, h4, h5⟩ := h
    cases d with
    | lst ds =>
      obtain ⟨vs, e, hr⟩ := h4
      obtain ⟨r', ex⟩ := r.still e h1 h2 h3 h5
      refine ⟨_, ex, r', ?_⟩
      show Rep K _ (.lst ds) _
      unfold Rep
      exact ⟨a, vs, rfl, upd_same, hr.mono ex.toGr⟩
    | _ => exact ⟨w, Ext.refl, r, True.intro⟩
theorem OpOk.mono {x : R} {v : V} (g : Gr w w') (h : OpOk K w σ x v) : OpOk K w' σ x v := by
  cases x with
  | sh d => exact Rep.mono g h
  | fr d =>
    cases d with
    | lst ds => exact Rep.mono (d := .lst ds) g h
    | _ => exact True.intro
  | nm i => exact h
/-- what is read at a value: shared, or somebody's own -/
def RdOk (K : PySem.W.Frag) (w : Wr) (H : Hp) (d : D) (v : V) : Prop := Rep K w d v ∨ ∃ a, v = .ref a ∧ Own K w H a d
theorem der_rd (r : Rel K B L w s σ H) {d d' : D} {v : V} (e : der s.c d = some d') (h : RdOk K w H d v) : RdOk K w H d' v := by
  cases d with
  | cel n =>
    have e : (match s.c[n]? with
      | some ds => some (D.lst ds)
      | none => none) = some d' := e
    split at e
    · rename_i ds hn
      cases e
      obtain ⟨a, vs, h1, h2, h3⟩ := r.cl n ds hn
      have : ∃ a, w.ca[n]? = some a ∧ v = .ref a := by
        rcases h with h | ⟨a, _, h⟩
        · unfold Rep at h; exact h
        · exact h.elim
      obtain ⟨a', h4, rfl⟩ := this
      rw [h1] at h4
      cases h4
      exact .inr ⟨a, rfl, vs, h2, h3⟩
    · cases e
  | _ => cases e; exact h
theorem Rel.slot (r : Rel K B L w s σ H) {i : Nat} {k : Kd} {d : D} {v : V} (l : s.e[i]? = some (some ⟨k, d⟩)) (o : σ[i]? = some (some v)) : RdOk K w H d v := by
  cases k with
  | sh =>
    obtain ⟨v', h1, h2⟩ := r.sh i d l
    rw [o] at h1; cases h1; exact .inl h2
  | ow =>
    obtain ⟨a, h1, _, _, _, h2⟩ := r.ow i d l
    rw [o] at h1; cases h1; exact .inr ⟨a, rfl, h2⟩
  | lk =>
    obtain ⟨a, h1, _, _, _, h2⟩ := r.lk i d l
    rw [o] at h1; cases h1; exact .inr ⟨a, rfl, h2⟩
theorem Rel.rd (r : Rel K B L w s σ H) {x : R} {v : V} {d : D} (l : look s x = some d) (o : OpOk K w σ x v) : RdOk K w H d v := by
  cases x with
  | sh d' =>
    have l' : der s.c d' = some d := l
    exact der_rd r l' (.inl o)
  | fr d' =>
    cases d' with
    | lst ds => cases l; exact .inl o
    | _ => cases l
  | nm i =>
    have o' : σ[i]? = some (some v) := o
    have l' : (match s.e[i]? with
      | some (some sl) => der s.c sl.d
      | _ => none) = some d := l
    split at l'
    · rename_i sl e
      exact der_rd r l' (r.slot (k := sl.k) (d := sl.d) e o')
    · cases l'
/-- readings -/
theorem RdOk.int {i : Int} {v : V} (h : RdOk K w H (.int i) v) : v = .int i := by
  rcases h with h | ⟨a, _, h⟩
  · unfold Rep at h; exact h
  · exact h.elim
theorem RdOk.bl {b : Bool} {v : V} (h : RdOk K w H (.bl b) v) : v = .bl b := by
  rcases h with h | ⟨a, _, h⟩
  · unfold Rep at h; exact h
  · exact h.elim
theorem RdOk.non {v : V} (h : RdOk K w H .non v) : v = .non := by
  rcases h with h | ⟨a, _, h⟩
  · unfold Rep at h; exact h
  · exact h.elim
theorem RdOk.str {x : Str} {v : V} (h : RdOk K w H (.str x) v) : v = .str x := by
  rcases h with h | ⟨a, _, h⟩
  · unfold Rep at h; exact h
  · exact h.elim
theorem RdOk.lst {ds : List D} {v : V} (g : ∀ a o, w.G a = some o → H a = some o) (h : RdOk K w H (.lst ds) v) : ∃ a vs, v = .ref a ∧ H a = some (.lst vs) ∧ Reps K w ds vs := by
  rcases h with h | ⟨a, e, h⟩
  · unfold Rep at h
    obtain ⟨a, vs, e, h1, h2⟩ := h
    exact ⟨a, vs, e, g _ _ h1, h2⟩
  · obtain ⟨vs, h1, h2⟩ := h
    exact ⟨a, vs, e, h1, h2⟩
theorem RdOk.fl {ds : List D} {v : V} (g : ∀ a o, w.G a = some o → H a = some o) (h : RdOk K w H (.fl ds) v) : ∃ a vs, v = .ref a ∧ SqL K H a vs ∧ Reps K w ds vs := by
  rcases h with h | ⟨a, e, h⟩
  · unfold Rep at h
    obtain ⟨a, vs, e, h1, h2⟩ := h
    exact ⟨a, vs, e, sqL_mono g h1, h2⟩
  · exact h.elim
theorem RdOk.tup {ds : List D} {v : V} (g : ∀ a o, w.G a = some o → H a = some o) (h : RdOk K w H (.tup ds) v) : ∃ a vs, v = .ref a ∧ SqT K H a vs ∧ Reps K w ds vs := by
  rcases h with h | ⟨a, e, h⟩
  · unfold Rep at h
    obtain ⟨a, vs, e, h1, h2⟩ := h
    exact ⟨a, vs, e, sqT_mono g h1, h2⟩
  · exact h.elim
theorem RdOk.cel {n : Nat} {v : V} (h : RdOk K w H (.cel n) v) : ∃ a, w.ca[n]? = some a ∧ v = .ref a := by
  rcases h with h | ⟨a, e, h⟩
  · unfold Rep at h
    exact h
  · exact h.elim
theorem RdOk.nodct {kvs : List (Key × V)} {v : V} (h : RdOk K w H (.dct kvs) v) : ∃ a, v = .ref a ∧ H a = some (.dK kvs) := by
  rcases h with h | ⟨a, e, h⟩
  · unfold Rep at h; exact h.elim
  · exact ⟨a, e, h⟩
theorem tup_rd {ds : List D} {v : V} (h : RdOk K w H (.tup ds) v) : Rep K w (.tup ds) v := by
  rcases h with h | ⟨a, e, h⟩
  · exact h
  · exact h.elim
/-- a list or a tuple that is read -/
theorem RdOk.seq {d : D} {ds : List D} {v : V} (g : ∀ a o, w.G a = some o → H a = some o) (e : seqOf d = some ds) (h : RdOk K w H d v) : ∃ a vs, v = .ref a ∧ (SqL K H a vs ∨ SqT K H a vs) ∧ Reps K w ds vs := by
  cases d with
  | lst ds' =>
    cases e
    obtain ⟨a, vs, h1, h2, h3⟩ := h.lst g
    exact ⟨a, vs, h1, .inl (SqL.of h2), h3⟩
  | fl ds' =>
    cases e
    obtain ⟨a, vs, h1, h2, h3⟩ := h.fl g
    exact ⟨a, vs, h1, .inl h2, h3⟩
  | tup ds' =>
    cases e
    obtain ⟨a, vs, h1, h2, h3⟩ := h.tup g
    exact ⟨a, vs, h1, .inr h2, h3⟩
  | _ => cases e
theorem RdOk.lstOf {d : D} {ds : List D} {v : V} (g : ∀ a o, w.G a = some o → H a = some o) (e : lstOf d = some ds) (h : RdOk K w H d v) : ∃ a vs, v = .ref a ∧ SqL K H a vs ∧ Reps K w ds vs := by
  cases d with
  | lst ds' =>
    cases e
    obtain ⟨a, vs, h1, h2, h3⟩ := h.lst g
    exact ⟨a, vs, h1, SqL.of h2, h3⟩
  | fl ds' =>
    cases e
    obtain ⟨a, vs, h1, h2, h3⟩ := h.fl g
    exact ⟨a, vs, h1, h2, h3⟩
  | _ => cases e
/-- numbers -/
theorem ints_of : ∀ {ds : List D} {ns : List Int} {vs : List V}, intsOf ds = some ns → Reps K w ds vs → vs = ns.map V.int
  | [], ns, vs, e, h => by
    cases e
    unfold Reps at h
    exact h
  | d :: ds, ns, vs, e, h => by
    unfold Reps at h
    obtain ⟨v, r, rfl, h1, h2⟩ := h
    cases d with
    | int i =>
      unfold intsOf at e
      split at e
      · rename_i is e'
        cases e
        unfold Rep at h1
        rw [h1, ints_of e' h2]
        rfl
      · cases e
    | _ => cases e
/-! data that == compares -/
mutual
theorem dp_rep (g : ∀ a o, w.G a = some o → H a = some o) : ∀ {d : D} {p : PyData} {v : V}, toP d = some p → Rep K w d v → Dp K H v p
  | .non, p, v, e, h => by unfold Rep at h; unfold toP at e; cases e; subst h; exact .non
  | .bl b, p, v, e, h => by unfold Rep at h; unfold toP at e; cases e; subst h; exact .bl b
  | .int b, p, v, e, h => by unfold Rep at h; unfold toP at e; cases e; subst h; exact .int b
  | .str b, p, v, e, h => by unfold Rep at h; unfold toP at e; cases e; subst h; exact .str b
  | .lst ds, p, v, e, h => by
    unfold Rep at h; unfold toP at e
    obtain ⟨a, vs, rfl, h1, h2⟩ := h
    split at e
    · rename_i ps e'; cases e; exact .lst (SqL.of (g _ _ h1)) (dp_reps g e' h2)
    · cases e
  | .fl ds, p, v, e, h => by
    unfold Rep at h; unfold toP at e
    obtain ⟨a, vs, rfl, h1, h2⟩ := h
    split at e
    · rename_i ps e'; cases e; exact .lst (sqL_mono g h1) (dp_reps g e' h2)
    · cases e
  | .tup ds, p, v, e, h => by
    unfold Rep at h; unfold toP at e
    obtain ⟨a, vs, rfl, h1, h2⟩ := h
    split at e
    · rename_i ps e'; cases e; exact .tup (sqT_mono g h1) (dp_reps g e' h2)
    · cases e
  | .dct _, p, v, e, h => by unfold toP at e; cases e
  | .cel _, p, v, e, h => by unfold toP at e; cases e
  | .fn _, p, v, e, h => by unfold toP at e; cases e
  | .err _, p, v, e, h => by unfold toP at e; cases e
theorem dp_reps (g : ∀ a o, w.G a = some o → H a = some o) : ∀ {ds : List D} {ps : List PyData} {vs : List V}, toPs ds = some ps → Reps K w ds vs → DpAll K H vs ps
  | [], ps, vs, e, h => by unfold Reps at h; unfold toPs at e; cases e; subst h; exact .nil
  | d :: ds, ps, vs, e, h => by
    unfold Reps at h; unfold toPs at e
    obtain ⟨v, r, rfl, h1, h2⟩ := h
    split at e
    · rename_i p q e1 e2; cases e; exact .cons (dp_rep g e1 h1) (dp_reps g e2 h2)
    · cases e
end
theorem RdOk.dp (g : ∀ a o, w.G a = some o → H a = some o) {d : D} {p : PyData} {v : V} (e : toP d = some p) (h : RdOk K w H d v) : Dp K H v p := by
  rcases h with h | ⟨a, rfl, h⟩
  · exact dp_rep g e h
  · cases d with
    | lst ds =>
      obtain ⟨vs, h1, h2⟩ := h
      unfold toP at e
      split at e
      · rename_i ps e'; cases e; exact .lst (SqL.of h1) (dp_reps g e' h2)
      · cases e
    | dct _ => unfold toP at e; cases e
    | _ => exact h.elim
/-- flat things -/
theorem flat_rep {d : D} {v : V} (f : flatD d = true) (h : Rep K w d v) : flatV v = true := by
  cases d with
  | non => unfold Rep at h; subst h; rfl
  | bl _ => unfold Rep at h; subst h; rfl
  | int _ => unfold Rep at h; subst h; rfl
  | str _ => unfold Rep at h; subst h; rfl
  | _ => cases f
theorem flat_reps : ∀ {ds : List D} {vs : List V}, ds.all flatD = true → Reps K w ds vs → vs.all flatV = true
  | [], vs, f, h => by unfold Reps at h; subst h; rfl
  | d :: ds, vs, f, h => by
    unfold Reps at h
    obtain ⟨v, r, rfl, h1, h2⟩ := h
    rw [List.all_cons, Bool.and_eq_true] at f ⊢
    exact ⟨flat_rep f.1 h1, flat_reps f.2 h2⟩
theorem eqF_rep {d d' : D} {v v' : V} (f : flatD d = true) (f' : flatD d' = true) (h : Rep K w d v) (h' : Rep K w d' v') : eqV v v' = eqF d d' := by
  cases d <;> cases f <;> cases d' <;> cases f' <;> (unfold Rep at h h'; subst h h'; rfl)
theorem mem_reps {x : D} {v : V} (f : flatD x = true) (h : Rep K w x v) : ∀ {ds : List D} {vs : List V}, ds.all flatD = true → Reps K w ds vs → inV v vs = ds.any fun y => eqF y x
  | [], vs, _, h' => by unfold Reps at h'; subst h'; rfl
  | d :: ds, vs, f', h' => by
    unfold Reps at h'
    obtain ⟨u, r, rfl, h1, h2⟩ := h'
    rw [List.all_cons, Bool.and_eq_true] at f'
    have ih := mem_reps f h f'.2 h2
    unfold inV at ih ⊢
    rw [List.any_cons, List.any_cons, ih, eqF_rep f'.1 f h1 h]
end
end PV
set_option maxHeartbeats 4000000
/-! Expressions: what the evaluator says holds. -/
namespace PV
open PySem PySem.Spec PyProof.Rows L2
theorem PEm {X : Cx} {e : Expr} {t t' : TE} (h : PE X e t) (f : ∀ σ H Q, t' σ H Q → t σ H Q) : PE X e t' := ⟨fun pins s σ H Q I q => h.run pins s σ H Q I (f σ H Q q)⟩
theorem PTm {X : Cx} {e : Expr} {t t' : TT} (h : PT X e t) (f : ∀ σ H Q, t' σ H Q → t σ H Q) : PT X e t' := ⟨fun pins s σ H Q I q => h.run pins s σ H Q I (f σ H Q q)⟩
theorem PWm {X : Cx} {e : Expr} {t t' : TT} (h : PW X e t) (f : ∀ σ H Q, t' σ H Q → t σ H Q) : PW X e t' := ⟨fun wh pins s σ H Q I q => h.run wh pins s σ H Q I (f σ H Q q)⟩
theorem PAm {X : Cx} {e : List Expr} {t t' : TA} (h : PA X e t) (f : ∀ σ H Q, t' σ H Q → t σ H Q) : PA X e t' := ⟨fun pos pins s σ H Q I q => h.run pos pins s σ H Q I (f σ H Q q)⟩
theorem POm {X : Cx} {e : Option Expr} {t t' : TO} (h : PO X e t) (f : ∀ σ H Q, t' σ H Q → t σ H Q) : PO X e t' := ⟨fun pins s σ H Q I q => h.run pins s σ H Q I (f σ H Q q)⟩
theorem PSm {X : Cx} {e : Stmt} {t t' : TS} (h : PS X e t) (f : ∀ D σ H, t' D σ H → t D σ H) : PS X e t' := ⟨fun pins s σ H D I q => h.run pins s σ H D I (f D σ H q)⟩
section
variable {K : PySem.W.Frag} {cls : Str → Value} {W : WX} {B : Hp} {L : Nat → Option Addr} {w w' : Wr} {s s' : Sx} {σ : L2.St} {H H' : Hp}
/-- what is wanted where an exception leaves -/
def XP (K : PySem.W.Frag) (cls : Str → Value) (W : WX) (B : Hp) (L : Nat → Option Addr) (w : Wr) (σ : L2.St) {α : Type} (o : Out α) : Prop :=
  ∀ n s', o = .exc n s' → ∀ w' H', Ext B w w' → Rel K B L w' s' σ H' → W (cls n) none σ H'
theorem XP.mono {α : Type} {o : Out α} (h : XP K cls W B L w σ o) (e : Ext B w w') : XP K cls W B L w' σ o := fun n s' eo w2 H' x r => h n s' eo w2 H' (e.trans x) r
/-- the reading of a step of the evaluator -/
def tM {α β : Type} (K : PySem.W.Frag) (cls : Str → Value) (W : WX) (m : M α) (RR : Hp → Wr → Sx → L2.St → Hp → α → β → Prop) : L2.St → Hp → (β → Hp → Prop) → Prop := fun σ H Q =>
  ∃ B L w s o, Rel K B L w s σ H ∧ m s = some o ∧ (∀ a s', o = .ok a s' → ∀ w' b H', Ext B w w' → Rel K B L w' s' σ H' → RR B w' s' σ H' a b → Q b H') ∧ XP K cls W B L w σ o
theorem tM_bd {α β γ : Type} {m : M α} {f : α → M γ} {RR : Hp → Wr → Sx → L2.St → Hp → α → β → Prop} {o : Out γ} {Q : β → Hp → Prop} (hR : Rel K B L w s σ H) (e : bd m f s = some o) (hx : XP K cls W B L w σ o)
    (k : ∀ a s1 w1 b H1, Ext B w w1 → Rel K B L w1 s1 σ H1 → RR B w1 s1 σ H1 a b → f a s1 = some o → XP K cls W B L w1 σ o → Q b H1) : tM K cls W m RR σ H Q := by
  unfold bd at e
  cases hm : m s with
  | none => rw [hm] at e; cases e
  | some o1 =>
    rw [hm] at e
    refine ⟨B, L, w, s, o1, hR, hm, fun a s' eo w' b H' ex hR' hr => ?_, fun n s' eo w' H' ex hR' => ?_⟩
    · subst eo
      exact k a s' w' b H' ex hR' hr e (hx.mono ex)
    · subst eo
      have e' : Out.exc n s' = o := Option.some.inj e
      exact hx n s' e'.symm w' H' ex hR'
abbrev tE (K : PySem.W.Frag) (cls : Str → Value) (W : WX) (F : Cf) (c : Ex) : TE := tM K cls W (evE F c) (ResOk K)
/-- several, none owned any more -/
def OpsOk (K : PySem.W.Frag) (w : Wr) (σ : L2.St) : List R → List V → Prop
  | [], vs => vs = []
  | r :: rs, vs => ∃ v us, vs = v :: us ∧ OpOk K w σ r v ∧ OpsOk K w σ rs us
theorem OpsOk.mono (g : Gr w w') : ∀ {rs : List R} {vs : List V}, OpsOk K w σ rs vs → OpsOk K w' σ rs vs
  | [], _, h => h
  | r :: rs, _, h => by
    obtain ⟨v, us, e, h1, h2⟩ := h
    exact ⟨v, us, e, h1.mono g, OpsOk.mono g h2⟩
abbrev RRs (K : PySem.W.Frag) : Hp → Wr → Sx → L2.St → Hp → List R → List V → Prop := fun _ w _ σ _ rs vs => OpsOk K w σ rs vs
def RRb {α : Type} : Hp → Wr → Sx → L2.St → Hp → α → α → Prop := fun _ _ _ _ _ a b => a = b
abbrev tAs (K : PySem.W.Frag) (cls : Str → Value) (W : WX) (F : Cf) (c : Exs) : TA := tM K cls W (evAs F c) (RRs K)
abbrev tTr (K : PySem.W.Frag) (cls : Str → Value) (W : WX) (F : Cf) (c : Ex) : TT := tM K cls W (bd (evE F c) truM) RRb
abbrev tOp' (K : PySem.W.Frag) (cls : Str → Value) (W : WX) (F : Cf) (c : Exo) : TO := tM K cls W (evO F c) RRb
theorem tE_bd {γ : Type} {F : Cf} {c : Ex} {f : R → M γ} {o : Out γ} {Q : V → Hp → Prop} (hR : Rel K B L w s σ H) (e : bd (evE F c) f s = some o) (hx : XP K cls W B L w σ o)
    (k : ∀ a s1 w1 b H1, Ext B w w1 → Rel K B L w1 s1 σ H1 → OpOk K w1 σ a b → f a s1 = some o → XP K cls W B L w1 σ o → Q b H1) : tE K cls W F c σ H Q :=
  tM_bd hR e hx fun a s1 w1 b H1 ex R1 hr e1 hx1 => by
    obtain ⟨w2, ex2, R2, o2⟩ := R1.norm hr
    exact k a s1 w2 b H1 (ex.trans ex2) R2 o2 e1 (hx1.mono ex2)
/-! ### steps without a heap -/
theorem lkp_some {γ : Type} {x : R} {f : D → M γ} {o : Out γ} (e : bd (lkp x) f s = some o) : ∃ d, look s x = some d ∧ f d s = some o := by
  unfold bd lkp op? at e
  cases h : look s x with
  | none => rw [h] at e; cases e
  | some d => rw [h] at e; exact ⟨d, rfl, e⟩
theorem op_some {α : Type} {x : Option α} {o : Out α} (e : op? x s = some o) : ∃ a, x = some a ∧ o = .ok a s := by
  unfold op? at e
  cases h : x with
  | none => rw [h] at e; cases e
  | some d => rw [h] at e; cases e; exact ⟨d, rfl, rfl⟩
theorem look2_some {x y : R} {f : D → D → Option R} {o : Out R} (e : look2 x y f s = some o) : ∃ d d' r, look s x = some d ∧ look s y = some d' ∧ f d d' = some r ∧ o = .ok r s := by
  unfold look2 at e
  obtain ⟨d, h1, e⟩ := lkp_some e
  obtain ⟨d', h2, e⟩ := lkp_some e
  obtain ⟨r, h3, h4⟩ := op_some e
  exact ⟨d, d', r, h1, h2, h3, h4⟩
/-- a new list of one's own -/
theorem Rel.newOwn (r : Rel K B L w s σ H) {ds : List D} {vs : List V} (h : Reps K w ds vs) {p : Addr} (hp : H p = none) : Rel K B L w s σ (upd H p (.lst vs)) ∧ ResOk K B w s σ (upd H p (.lst vs)) (.fr (.lst ds)) (.ref p) := by
  obtain ⟨h1, h2, h3⟩ := r.freshNot hp
  exact ⟨r.beside hp, p, rfl, h1, h2, h3, ⟨vs, upd_same, h⟩, fun i d' e => r.freshNotOw hp i d' e⟩
/-- a new tuple -/
theorem Rel.newTup (r : Rel K B L w s σ H) {ds : List D} {vs : List V} (h : Reps K w ds vs) {p : Addr} (hp : H p = none) :
    ∃ w', Ext B w w' ∧ Rel K B L w' s σ (upd H p (.tup vs)) ∧ Rep K w' (.tup ds) (.ref p) := by
  obtain ⟨r', ex⟩ := r.laid (o := .tup vs) hp
  refine ⟨_, ex, r', ?_⟩
  unfold Rep
  exact ⟨p, vs, rfl, SqT.of upd_same, h.mono ex.toGr⟩
/-! ### operators -/
theorem times_fold (l : List Nat) : ∀ (k : Nat) (acc : List Nat), List.foldl (fun a b => a ++ b) acc.toArray (List.replicate k l.toArray) = (acc ++ (List.replicate k l).flatten).toArray := by
  intro k
  induction k with
  | zero =>
    intro acc
    rw [List.replicate_zero, List.replicate_zero, List.flatten_nil, List.append_nil]
    rfl
  | succ k ih =>
    intro acc
    have h1 : acc.toArray ++ l.toArray = (acc ++ l).toArray := by simp
    rw [List.replicate_succ, List.foldl_cons, h1, ih, List.replicate_succ, List.flatten_cons, List.append_assoc]
theorem times_foldl (x : Str) (k : Nat) : (⟨(List.replicate k x.cps).foldl (· ++ ·) #[]⟩ : Str) = timesS x k := by
  have h := times_fold x.cps.toList k []
  rw [List.nil_append, Array.toArray_toList] at h
  unfold timesS
  rw [← h]
theorem times_len (x : Str) (k : Nat) : (timesS x k).length = x.length * k := by
  show (List.replicate k x.cps.toList).flatten.toArray.size = _
  rw [List.size_toArray, PyProof.Rows.lm_len_rep_flat, Nat.mul_comm]
  rfl
theorem times_one (x : Str) : timesS x 1 = x := by
  show (⟨((x.cps.toList ++ []).toArray)⟩ : Str) = x
  rw [List.append_nil, Array.toArray_toList]
theorem times_none {x : Str} (h : x.length = 0) (k : Nat) : timesS x k = x := by
  have e : x.cps = #[] := Array.size_eq_zero_iff.mp h
  obtain ⟨c⟩ := x
  have e : c = #[] := e
  subst e
  show (⟨(List.replicate k ([] : List Nat)).flatten.toArray⟩ : Str) = ⟨#[]⟩
  congr 1
  simp
theorem op_timesS {X : Cx} : OpR X (binaryOp .Mult) (fun x y H Q => ∃ i k, x = .str i ∧ y = .int k ∧ 0 ≤ k ∧ k ≤ 16777216 ∧ i.length * k.toNat ≤ 16777216 ∧ Q (.str (timesS i k.toNat)) H) := by
  intro pins s σ H x y v u Q I rx ry h
  obtain ⟨i, k, rfl, rfl, h0, h1, hz, q⟩ := h
  obtain ⟨t, rfl⟩ := rx
  obtain ⟨t', rfl⟩ := ry
  have hlt : (decide (k < -(2 ^ 63 : Int)) || decide (k ≥ 2 ^ 63)) = false := by
    rw [Bool.or_eq_false_iff]
    exact ⟨decide_eq_false (by omega), decide_eq_false (by omega)⟩
  refine PySem.P.mul_str hlt (fun h2 h3 => ?_) (fun h2 h3 => ?_) ?_
  · have hk : 0 < k := by omega
    have e1 : ((k.toNat : Nat) : Int) = k := Int.toNat_of_nonneg h0
    have h4 : (i.length : Int) * k ≤ 16777216 := by
      rw [← e1, ← Int.natCast_mul]
      omega
    have h5 : (i.length : Int) ≤ (2 ^ 63 - 1) / k := (Int.le_ediv_iff_mul_le hk).mpr (Int.le_trans h4 (by decide))
    exact fun z => absurd z (Int.not_lt.mpr h5)
  · exact decide_eq_false (Nat.not_lt.mpr (by rw [sizeLine_eq]; exact hz))
  · by_cases c1 : k < 1
    · have e : k = 0 := by omega
      subst e
      rw [if_pos (by decide)]
      exact ⟨by decide, .str _, H, I.tok _, ⟨_, rfl⟩, q⟩
    · rw [if_neg c1]
      by_cases c2 : (k == 1 || i.length == 0) = true
      · rw [if_pos c2]
        have e : timesS i k.toNat = i := by
          rw [Bool.or_eq_true, beq_iff_eq, beq_iff_eq] at c2
          rcases c2 with e | e
          · rw [e]; exact times_one i
          · exact times_none e _
        rw [e] at q
        exact ⟨.str i, H, I, ⟨t, rfl⟩, q⟩
      · rw [if_neg c2, times_foldl]
        exact ⟨by rw [times_len, sizeLine_eq]; exact hz, .str _, H, I.tok _, ⟨_, rfl⟩, q⟩
def bopR (K : PySem.W.Frag) : Bop → R2
  | .add => fun x y H Q => rI0 (fun i j => .int (i + j)) x y H Q ∨ rCat x y H Q ∨ (∃ i j, x = .str i ∧ y = .str j ∧ i.length + j.length ≤ sizeLine ∧ Q (.str (i ++ j)) H) ∨ rCatT K x y H Q
  | .sub => rI0 fun i j => .int (i - j)
  | .mul => fun x y H Q => rI CMul (fun i j => .int (i * j)) x y H Q ∨ rRep x y H Q ∨ (∃ i k, x = .str i ∧ y = .int k ∧ 0 ≤ k ∧ k ≤ 16777216 ∧ i.length * k.toNat ≤ 16777216 ∧ Q (.str (timesS i k.toNat)) H)
  | .fdiv => rI CDivW fun i j => .int (i / j)
  | .mod => rI (fun _ j => 0 < j) fun i j => .int (i % j)
  | .pow => rI CPow fun i j => .int (i ^ j.toNat)
  | .shr => rI (fun _ j => 0 ≤ j) fun i j => .int (i / 2 ^ j.toNat)
  | .band => rI0 fun i j => .int (Builtin.bitAnd i j)
def bopO : Bop → Operator
  | .add => .Add | .sub => .Sub | .mul => .Mult | .fdiv => .FloorDiv | .mod => .Mod | .pow => .Pow | .shr => .RShift | .band => .BitAnd
theorem bopR_op (X : Cx) : ∀ o : Bop, OpR X (binaryOp (bopO o)) (bopR X.K o)
  | .add => op_add.or (op_cat.or (op_add_str.or op_catT))
  | .sub => op_sub
  | .mul => op_mul.or (op_rep.or op_timesS)
  | .fdiv => op_fdivW
  | .mod => op_mod
  | .pow => op_pow
  | .shr => op_shr
  | .band => op_and
theorem div_C {i j : Int} (h : 0 < j ∧ j < 1000000000000000000000000000000000000000000000000000000000000) : CDivW i j := wide_div (b := 300) h.1 (by
  have h2 : j.natAbs < 1000000000000000000000000000000000000000000000000000000000000 := by omega
  exact Nat.lt_of_lt_of_le h2 (by decide)) (by decide) (by decide)
theorem mulOk_C {i j : Int} (h : mulOk i j = true) : CMul i j := by
  unfold mulOk at h
  unfold CMul
  exact of_decide_eq_true h
theorem res_sh {d : D} {v : V} (h : Rep K w d v) : ResOk K B w s σ H (.sh d) v := h
theorem rep_int {i : Int} : Rep K w (.int i) (.int i) := by unfold Rep; rfl
theorem rep_bl {i : Bool} : Rep K w (.bl i) (.bl i) := by unfold Rep; rfl
theorem rep_str {i : Str} : Rep K w (.str i) (.str i) := by unfold Rep; rfl
theorem rep_non : Rep K w .non .non := by unfold Rep; rfl
theorem bop_ok {o : Bop} {d d' : D} {r : R} {v1 v2 : V} {Q : VK} (R : Rel K B L w s σ H) (h1 : RdOk K w H d v1) (h2 : RdOk K w H d' v2) (e : bop o d d' = some r)
    (k : ∀ w' v H', Ext B w w' → Rel K B L w' s σ H' → ResOk K B w' s σ H' r v → Q v H') : bopR K o v1 v2 H Q := by
  unfold bop at e
  split at e
  · cases e
    refine .inl ⟨_, _, h1.int, h2.int, k w _ H Ext.refl R (res_sh rep_int)⟩
  · split at e
    · rename_i hz
      cases e
      obtain ⟨a, vs, rfl, e1, r1⟩ := h1.lst R.gh
      obtain ⟨b, us, rfl, e2, r2⟩ := h2.lst R.gh
      refine .inr (.inl ⟨a, b, vs, us, rfl, rfl, e1, e2, by rw [r1.len, r2.len, sizeLine_eq]; exact hz, fun p hp => ?_⟩)
      obtain ⟨R', o'⟩ := R.newOwn (r1.app r2) hp
      exact k w _ _ Ext.refl R' o'
    · cases e
  · split at e
    · rename_i hz
      cases e
      obtain ⟨a, vs, rfl, e1, r1⟩ := h1.tup R.gh
      obtain ⟨b, us, rfl, e2, r2⟩ := h2.tup R.gh
      have nn : ∀ {ds : List D} {ws : List V}, Reps K w ds ws → ds ≠ [] → ws ≠ [] := fun {ds ws} h n q => n (by have := h.len; rw [q] at this; exact List.length_eq_zero_iff.mp this.symm)
      refine .inr (.inr (.inr ⟨a, b, vs, us, rfl, rfl, e1, e2, nn r1 hz.1, by rw [r1.len, r2.len, sizeLine_eq]; exact hz.2.2, fun z => absurd z (nn r2 hz.2.1), fun _ p hp => ?_⟩))
      obtain ⟨w', ex, R', o'⟩ := R.newTup (r1.app r2) hp
      exact k w' _ _ ex R' o'
    · cases e
  · split at e
    · rename_i hz
      cases e
      exact .inr (.inr (.inl ⟨_, _, h1.str, h2.str, by rw [sizeLine_eq]; exact hz, k w _ H Ext.refl R (res_sh rep_str)⟩))
    · cases e
  · cases e
    exact ⟨_, _, h1.int, h2.int, k w _ H Ext.refl R (res_sh rep_int)⟩
  · split at e
    · rename_i hm
      cases e
      exact .inl ⟨_, _, h1.int, h2.int, mulOk_C hm, k w _ H Ext.refl R (res_sh rep_int)⟩
    · cases e
  · split at e
    · rename_i hm
      cases e
      obtain ⟨a, vs, rfl, e1, r1⟩ := h1.lst R.gh
      refine .inr (.inl ⟨a, _, vs, rfl, h2.int, e1, hm.1, hm.2.1, by rw [r1.len, sizeLine_eq]; exact hm.2.2, fun p hp => ?_⟩)
      obtain ⟨R', o'⟩ := R.newOwn (r1.rep _) hp
      exact k w _ _ Ext.refl R' o'
    · cases e
  · split at e
    · rename_i hm
      cases e
      exact .inr (.inr ⟨_, _, h1.str, h2.int, hm.1, hm.2.1, hm.2.2, k w _ H Ext.refl R (res_sh rep_str)⟩)
    · cases e
  · split at e
    · rename_i hm
      cases e
      exact ⟨_, _, h1.int, h2.int, div_C hm, k w _ H Ext.refl R (res_sh rep_int)⟩
    · cases e
  · split at e
    · rename_i hm
      cases e
      exact ⟨_, _, h1.int, h2.int, hm, k w _ H Ext.refl R (res_sh rep_int)⟩
    · cases e
  · split at e
    · rename_i hm
      cases e
      exact ⟨_, _, h1.int, h2.int, hm, k w _ H Ext.refl R (res_sh rep_int)⟩
    · cases e
  · split at e
    · rename_i hm
      cases e
      exact ⟨_, _, h1.int, h2.int, hm, k w _ H Ext.refl R (res_sh rep_int)⟩
    · cases e
  · cases e
    exact ⟨_, _, h1.int, h2.int, k w _ H Ext.refl R (res_sh rep_int)⟩
  · cases e
/-! ### comparisons -/
def copR (K : PySem.W.Frag) : Cop → R2
  | .eq => fun x y H Q => rEq x y H Q ∨ rEqD K x y H Q
  | .ne => fun x y H Q => rNe x y H Q ∨ rNeD K x y H Q
  | .lt => fun x y H Q => rI0 (fun i j => .bl (decide (i < j))) x y H Q ∨ rLtT K x y H Q
  | .le => rI0 fun i j => .bl (decide (i ≤ j))
  | .gt => rI0 fun i j => .bl (decide (j < i))
  | .ge => rI0 fun i j => .bl (decide (j ≤ i))
  | .is => fun x y H Q => (y = .non ∧ Q (.bl (decide (x = .non))) H) ∨ rIsB x y H Q
  | .isn => fun x y H Q => (y = .non ∧ Q (.bl (!decide (x = .non))) H) ∨ rNotB x y H Q
  | .mem => fun x y H Q => (∃ i j, x = .str i ∧ y = .str j ∧ Q (.bl (!(Builtin.Str.occurrences j i 0 j.length 1).isEmpty)) H) ∨ rIn K false x y H Q
  | .nmem => fun x y H Q => (∃ i j, x = .str i ∧ y = .str j ∧ Q (.bl (!(!(Builtin.Str.occurrences j i 0 j.length 1).isEmpty))) H) ∨ rIn K true x y H Q
def copO : Cop → CmpOp
  | .eq => .Eq | .ne => .NotEq | .lt => .Lt | .le => .LtE | .gt => .Gt | .ge => .GtE | .is => .Is | .isn => .IsNot | .mem => .In | .nmem => .NotIn
theorem copR_op (X : Cx) {k : Nat} (hr : Room k X.A) : ∀ o : Cop, OpR X (compareOp (copO o)) (copR X.K o)
  | .eq => op_eq.or (op_eqD hr.units)
  | .ne => op_ne.or (op_neD hr.units)
  | .lt => op_lt.or (op_ltT hr.units0)
  | .le => op_le
  | .gt => op_gt
  | .ge => op_ge
  | .is => op_isN.or op_isBl
  | .isn => op_notN.or op_notBl
  | .mem => op_in_str.or op_in_seq
  | .nmem => op_notin_str.or op_notIn_seq
theorem eqD_some {d d' : D} {b : Bool} (e : eqD d d' = some b) : ∃ p q, toP d = some p ∧ toP d' = some q ∧ SeqAt.shaped p = true ∧ SeqAt.shaped q = true ∧ b = PyData.eqv p q := by
  unfold eqD at e
  split at e
  · rename_i p q e1 e2
    split at e
    · rename_i h
      cases e
      exact ⟨p, q, e1, e2, h.1, h.2, rfl⟩
    · cases e
  · cases e
theorem lexLt_eq : ∀ xs ys : List Int, lexLt xs ys = HT.lexLt xs ys
  | [], [] => rfl
  | [], _ :: _ => rfl
  | _ :: _, [] => rfl
  | x :: xs, y :: ys => by
    unfold lexLt
    rw [HT.lexLt_cons, lexLt_eq xs ys]
theorem isNon_rd {d : D} {v : V} (h : RdOk K w H d v) : decide (v = .non) = d.isNon := by
  cases d with
  | non => rw [h.non]; rfl
  | bl b => rw [h.bl]; rfl
  | int b => rw [h.int]; rfl
  | str b => rw [h.str]; rfl
  | lst ds =>
    have : ∃ a, v = .ref a := by
      rcases h with h | ⟨a, e, _⟩
      · unfold Rep at h
        obtain ⟨a, _, e, _⟩ := h
        exact ⟨a, e⟩
      · exact ⟨a, e⟩
    obtain ⟨a, rfl⟩ := this
    rfl
  | fl ds =>
    rcases h with h | ⟨a, e, h⟩
    · unfold Rep at h
      obtain ⟨a, _, rfl, _⟩ := h
      rfl
    · exact h.elim
  | tup ds =>
    rcases h with h | ⟨a, e, h⟩
    · unfold Rep at h
      obtain ⟨a, _, rfl, _⟩ := h
      rfl
    · exact h.elim
  | dct kvs =>
    obtain ⟨a, rfl, _⟩ := h.nodct
    rfl
  | cel n =>
    obtain ⟨a, _, rfl⟩ := h.cel
    rfl
  | fn f =>
    rcases h with h | ⟨a, e, h⟩
    · unfold Rep at h
      obtain ⟨a, rfl, _⟩ := h
      rfl
    · exact h.elim
  | err n =>
    rcases h with h | ⟨a, e, h⟩
    · unfold Rep at h
      obtain ⟨a, _, _, rfl, _⟩ := h
      rfl
    · exact h.elim
theorem mem_ok {x y : D} {ds : List D} {b : Bool} {v1 v2 : V} (R : Rel K B L w s σ H) (h1 : RdOk K w H x v1) (h2 : RdOk K w H y v2) (e : seqOf y = some ds) (e' : memD x ds = some b) :
    ∃ p xs, v2 = .ref p ∧ (SqL K H p xs ∨ SqT K H p xs) ∧ flatV v1 = true ∧ xs.all flatV = true ∧ inV v1 xs = b := by
  obtain ⟨a, vs, rfl, hs, hr⟩ := h2.seq R.gh e
  unfold memD at e'
  split at e'
  · rename_i hf
    cases e'
    have hx : Rep K w x v1 := by
      rcases h1 with h1 | ⟨a, _, h1⟩
      · exact h1
      · cases x <;> first | exact h1.elim | (cases hf.1)
    exact ⟨a, vs, rfl, hs, flat_rep hf.1 hx, flat_reps hf.2 hr, mem_reps hf.1 hx hf.2 hr⟩
  · cases e'
theorem cop_ok {o : Cop} {d d' : D} {c : Bool} {v1 v2 : V} {Q : VK} (R : Rel K B L w s σ H) (h1 : RdOk K w H d v1) (h2 : RdOk K w H d' v2) (e : cop o d d' = some c) (k : Q (.bl c) H) : copR K o v1 v2 H Q := by
  have gen : ∀ {b : Bool}, eqD d d' = some b → ∃ p q, Dp K H v1 p ∧ Dp K H v2 q ∧ SeqAt.shaped p = true ∧ SeqAt.shaped q = true ∧ b = PyData.eqv p q := fun {b} e => by
    obtain ⟨p, q, e1, e2, e3, e4, e5⟩ := eqD_some e
    exact ⟨p, q, h1.dp R.gh e1, h2.dp R.gh e2, e3, e4, e5⟩
  unfold cop at e
  split at e
  · cases e
    rw [h1.int, h2.int]
    refine .inl ⟨rfl, ?_⟩
    rw [show (decide (V.int _ = V.int _)) = decide (_ = _) from decide_eq_decide.mpr ⟨fun e => V.int.inj e, fun e => by rw [e]⟩]
    exact k
  · cases e
    rw [h1.int, h2.int]
    refine .inl ⟨rfl, ?_⟩
    rw [show (decide (V.int _ = V.int _)) = decide (_ = _) from decide_eq_decide.mpr ⟨fun e => V.int.inj e, fun e => by rw [e]⟩]
    exact k
  · obtain ⟨p, q, e1, e2, e3, e4, rfl⟩ := gen e
    exact .inr ⟨p, q, e1, e2, e3, e4, k⟩
  · cases he : eqD d d' with
    | none => rw [he] at e; cases e
    | some b =>
      rw [he] at e
      cases e
      obtain ⟨p, q, e1, e2, e3, e4, rfl⟩ := gen he
      exact .inr ⟨p, q, e1, e2, e3, e4, k⟩
  · cases e
    exact .inl ⟨_, _, h1.int, h2.int, k⟩
  · cases e
    exact ⟨_, _, h1.int, h2.int, k⟩
  · cases e
    exact ⟨_, _, h1.int, h2.int, k⟩
  · cases e
    exact ⟨_, _, h1.int, h2.int, k⟩
  · split at e
    · rename_i ns ms e1 e2
      cases e
      obtain ⟨a, vs, rfl, s1, r1⟩ := h1.tup R.gh
      obtain ⟨b, us, rfl, s2, r2⟩ := h2.tup R.gh
      have := ints_of e1 r1
      subst this
      have := ints_of e2 r2
      subst this
      refine .inr ⟨a, b, ns, ms, rfl, rfl, s1, s2, ?_⟩
      rw [← lexLt_eq]; exact k
    · cases e
  · cases e
    exact .inl ⟨h2.non, by rw [isNon_rd h1]; exact k⟩
  · cases e
    exact .inl ⟨h2.non, by rw [isNon_rd h1]; exact k⟩
  · cases e
    exact .inr ⟨_, _, h1.bl, h2.bl, k⟩
  · cases e
    exact .inr ⟨_, _, h1.bl, h2.bl, k⟩
  · cases e
    exact .inl ⟨_, _, h1.str, h2.str, k⟩
  · cases e
    exact .inl ⟨_, _, h1.str, h2.str, k⟩
  · split at e
    · rename_i ds e1
      obtain ⟨p, xs, e2, e3, e4, e5, e6⟩ := mem_ok R h1 h2 e1 e
      exact .inr ⟨p, xs, e2, e3, e4, e5, by rw [e6]; exact k⟩
    · cases e
  · split at e
    · rename_i ds e1
      cases hm : memD d ds with
      | none => rw [hm] at e; cases e
      | some b =>
        rw [hm] at e
        cases e
        obtain ⟨p, xs, e2, e3, e4, e5, e6⟩ := mem_ok R h1 h2 e1 hm
        exact .inr ⟨p, xs, e2, e3, e4, e5, by rw [e6]; exact k⟩
    · cases e
  · cases e
/-! ### truth -/
theorem tru_ok' {d : D} {c : Bool} {v : V} (h : RdOk K w H d v) (e : truD d = some c) : TruV K v H c := by
  unfold truD at e
  split at e
  · cases e; rw [h.non]; rfl
  · cases e; rw [h.bl]; rfl
  · cases e; rw [h.int]; rfl
  · cases e
/-! ### sharing -/
theorem esc_ok {x : R} {v : V} {d : D} {o : Out D} (R : Rel K B L w s σ H) (h : OpOk K w σ x v) (e : esc x s = some o) : ∃ d s' w', o = .ok d s' ∧ Ext B w w' ∧ Rel K B L w' s' σ H ∧ Rep K w' d v ∧ s'.c = s.c := by
  cases x with
  | sh d => cases e; exact ⟨_, _, w, rfl, Ext.refl, R, h, rfl⟩
  | fr d =>
    cases d with
    | lst ds => cases e; exact ⟨_, _, w, rfl, Ext.refl, R, h, rfl⟩
    | _ => cases e
  | nm i =>
    have h' : σ[i]? = some (some v) := h
    have e' : (match s.e[i]? with
      | some (some ⟨.sh, d⟩) => some (.ok d s)
      | some (some ⟨.ow, .lst ds⟩) => some (.ok (.lst ds) { s with e := s.e.set i (some ⟨.sh, .lst ds⟩) })
      | _ => (none : Option (Out D))) = some o := e
    split at e'
    · rename_i d hd
      cases e'
      obtain ⟨v', h1, h2⟩ := R.sh i d hd
      rw [h'] at h1; cases h1
      exact ⟨_, _, w, rfl, Ext.refl, R, h2, rfl⟩
    · rename_i ds hd
      cases e'
      obtain ⟨a, h1, h2, h3, h4, vs, h5, h6⟩ := R.ow i _ hd
      rw [h'] at h1; cases h1
      have hi : i < s.e.length := (List.getElem?_eq_some_iff.mp hd).1
      -- the slot is shared first
      have gr : Gr w { w with G := upd w.G a (.lst vs) } := ⟨fun b o' hb => by
        show upd w.G a (.lst vs) b = some o'
        rw [upd_ne (ne_of_none hb h2)]; exact hb, [], by simp⟩
      have ex : Ext B w { w with G := upd w.G a (.lst vs) } := ⟨gr, fun b hb => upd_ne (fun z => hb (by rw [z]; exact h3))⟩
      have rep : Rep K { w with G := upd w.G a (.lst vs) } (.lst ds) (.ref a) := by
        unfold Rep
        exact ⟨a, vs, rfl, upd_same, h6.mono gr⟩
      refine ⟨_, _, _, rfl, ex, ⟨fun b o' hb => ?_, R.bh, by simpa using R.len, fun j d hj => ?_, fun j d hj => ?_, fun j d hj => ?_, fun j b hj => ?_, fun j l d d' b hj hl q1 q2 => ?_, R.cn, fun n ds' hn => ?_, fun b hb => ?_, R.clen⟩, rep, rfl⟩
      · by_cases z : b = a
        · subst z
          have hb' : upd w.G b (.lst vs) b = some o' := hb
          rw [upd_same] at hb'; cases hb'; exact h5
        · exact R.gh b o' (by have hb' : upd w.G a (.lst vs) b = some o' := hb; rw [upd_ne z] at hb'; exact hb')
      · by_cases z : j = i
        · subst z
          rw [List.getElem?_set_self hi] at hj
          cases hj
          exact ⟨_, h', rep⟩
        · rw [List.getElem?_set_ne (Ne.symm z)] at hj
          obtain ⟨u, q1, q2⟩ := R.sh j d hj
          exact ⟨u, q1, q2.mono gr⟩
      · by_cases z : j = i
        · subst z
          rw [List.getElem?_set_self hi] at hj
          cases hj
        · rw [List.getElem?_set_ne (Ne.symm z)] at hj
          obtain ⟨b, q1, q2, q3, q4, q5⟩ := R.ow j d hj
          refine ⟨b, q1, ?_, q3, q4, q5.mono gr rfl⟩
          show upd w.G a (.lst vs) b = none
          rw [upd_ne (fun y => z (R.inj j i _ _ b hj hd q1 (by rw [y]; exact h')))]
          exact q2
      · by_cases z : j = i
        · subst z
          rw [List.getElem?_set_self hi] at hj
          cases hj
        · rw [List.getElem?_set_ne (Ne.symm z)] at hj
          obtain ⟨b, q1, q2, q3, q4, q5⟩ := R.lk j d hj
          refine ⟨b, q1, ?_, q3, q4, q5.mono gr rfl⟩
          show upd w.G a (.lst vs) b = none
          rw [upd_ne (fun y => q3 (by rw [y]; exact h3))]
          exact q2
      · obtain ⟨d, q⟩ := R.lk' j b hj
        refine ⟨d, ?_⟩
        rw [List.getElem?_set_ne (fun z => by rw [← z, hd] at q; cases q)]
        exact q
      · have zj : j ≠ i := fun z => by
          subst z
          rw [List.getElem?_set_self hi] at hj; cases hj
        have zl : l ≠ i := fun z => by
          subst z
          rw [List.getElem?_set_self hi] at hl; cases hl
        rw [List.getElem?_set_ne (Ne.symm zj)] at hj
        rw [List.getElem?_set_ne (Ne.symm zl)] at hl
        exact R.inj j l d d' b hj hl q1 q2
      · obtain ⟨b, us, q1, q2, q3⟩ := R.cl n ds' hn
        exact ⟨b, us, q1, q2, q3.mono gr⟩
      · refine ⟨?_, (R.cf b hb).2⟩
        show upd w.G a (.lst vs) b = none
        rw [upd_ne (fun y => h4 (by rw [← y]; exact hb))]
        exact (R.cf b hb).1
    · cases e'
theorem esc_bd {γ : Type} {x : R} {v : V} {f : D → M γ} {o : Out γ} (R : Rel K B L w s σ H) (h : OpOk K w σ x v) (e : bd (esc x) f s = some o) : ∃ d s' w', f d s' = some o ∧ Ext B w w' ∧ Rel K B L w' s' σ H ∧ Rep K w' d v ∧ s'.c = s.c := by
  unfold bd at e
  cases he : esc x s with
  | none => rw [he] at e; cases e
  | some o1 =>
    obtain ⟨d, s', w', rfl, ex, R', rp, ec⟩ := esc_ok (d := .non) R h he
    rw [he] at e
    exact ⟨d, s', w', e, ex, R', rp, ec⟩
theorem escs_bd {γ : Type} : ∀ {rs : List R} {vs : List V} {f : List D → M γ} {o : Out γ} {w : Wr} {s : Sx}, Rel K B L w s σ H → OpsOk K w σ rs vs → bd (escs rs) f s = some o →
    ∃ ds s' w', f ds s' = some o ∧ Ext B w w' ∧ Rel K B L w' s' σ H ∧ Reps K w' ds vs ∧ s'.c = s.c
  | [], vs, f, o, w, s, R, h, e => by
    have h' : vs = [] := h
    subst h'
    exact ⟨[], s, w, e, Ext.refl, R, Reps.nil, rfl⟩
  | r :: rs, vs, f, o, w, s, R, h, e => by
    obtain ⟨v, us, rfl, h1, h2⟩ := h
    have e' : bd (esc r) (fun d => bd (bd (escs rs) fun ds => pu (d :: ds)) f) s = some o := by
      rw [← e]
      show _ = bd (bd (esc r) fun d => bd (escs rs) fun ds => pu (d :: ds)) f s
      unfold bd
      cases esc r s with
      | none => rfl
      | some o1 => cases o1 <;> rfl
    obtain ⟨d, s1, w1, e1, x1, R1, p1, c1⟩ := esc_bd R h1 e'
    have e2 : bd (escs rs) (fun ds => f (d :: ds)) s1 = some o := by
      rw [← e1]
      unfold bd
      cases escs rs s1 with
      | none => rfl
      | some o1 => cases o1 <;> rfl
    obtain ⟨ds, s2, w2, e3, x2, R2, p2, c2⟩ := escs_bd R1 (h2.mono x1.toGr) e2
    exact ⟨d :: ds, s2, w2, e3, x1.trans x2, R2, Reps.cons (p1.mono x2.toGr) p2, c2.trans c1⟩
theorem looks_bd {γ : Type} {w : Wr} {H : Hp} : ∀ {rs : List R} {vs : List V} {f : List D → M γ} {o : Out γ}, Rel K B L w s σ H → OpsOk K w σ rs vs → bd (looks rs) f s = some o →
    ∃ ds, f ds s = some o ∧ ds.length = vs.length ∧ ∀ (i : Nat) d v, ds[i]? = some d → vs[i]? = some v → RdOk K w H d v
  | [], vs, f, o, R, h, e => by
    have h' : vs = [] := h
    subst h'
    exact ⟨[], e, rfl, fun i d v q => by simp at q⟩
  | r :: rs, vs, f, o, R, h, e => by
    obtain ⟨v, us, rfl, h1, h2⟩ := h
    have e' : bd (lkp r) (fun d => bd (bd (looks rs) fun ds => pu (d :: ds)) f) s = some o := by
      rw [← e]
      show _ = bd (bd (lkp r) fun d => bd (looks rs) fun ds => pu (d :: ds)) f s
      unfold bd
      cases lkp r s with
      | none => rfl
      | some o1 => cases o1 <;> rfl
    obtain ⟨d, l, e1⟩ := lkp_some e'
    have e2 : bd (looks rs) (fun ds => f (d :: ds)) s = some o := by
      rw [← e1]
      unfold bd
      cases looks rs s with
      | none => rfl
      | some o1 => cases o1 <;> rfl
    obtain ⟨ds, e3, hl, hd⟩ := looks_bd R h2 e2
    refine ⟨d :: ds, e3, by rw [List.length_cons, List.length_cons, hl], fun i d' v' q1 q2 => ?_⟩
    cases i with
    | zero =>
      rw [List.getElem?_cons_zero] at q1 q2
      cases q1; cases q2
      exact R.rd l h1
    | succ i =>
      rw [List.getElem?_cons_succ] at q1 q2
      exact hd i d' v' q1 q2
end
end PV
set_option maxHeartbeats 4000000
/-! Expressions: the rules, one a construct. -/
namespace PV
open PySem PySem.Spec PyProof.Rows L2
section
variable {X : Cx} {cls : Str → Value} {W : WX} {F : Cf} {pos : Pos}
theorem r_var {i : Nat} {x : Str} (hN : X.N[i]? = some x) (hv : Vis X.env.scope x) (hd : (x == ("__debug__" : Str)) = false) (hcd : (x == ("__classdict__" : Str)) = false) : PE X (.Name x pos) (tE X.K cls W F (.var i)) :=
  PEm (pe_var hN hv hd hcd) fun σ H Q ⟨B, L, w, s, o, hR, e, k, _⟩ => by
    have e' : (match s.e[i]? with
      | some (some _) => some (.ok (.nm i) s)
      | _ => (none : Option (Out R))) = some o := e
    split at e'
    · rename_i sl h
      cases e'
      obtain ⟨kk, d⟩ := sl
      have : ∃ v, σ[i]? = some (some v) := by
        cases kk with
        | sh => obtain ⟨v, h1, _⟩ := hR.sh i d h; exact ⟨v, h1⟩
        | ow => obtain ⟨v, h1, _⟩ := hR.ow i d h; exact ⟨_, h1⟩
        | lk => obtain ⟨v, h1, _⟩ := hR.lk i d h; exact ⟨_, h1⟩
      obtain ⟨v, hv⟩ := this
      exact ⟨v, hv, k _ _ rfl w v H Ext.refl hR hv⟩
    · cases e'
/-- a scalar -/
theorem r_con {e : Expr} {v : V} {d : D} (h : PE X e (tC v)) (hr : ∀ w, Rep X.K w d v) : PE X e (tE X.K cls W F (.con d)) :=
  PEm h fun σ H Q ⟨B, L, w, s, o, hR, e, k, _⟩ => by
    cases e
    exact k _ _ rfl w v H Ext.refl hR (hr w)
variable {a b c : Expr} {ca cb cc : Ex}
theorem r_bin {o : Bop} (ha : PE X a (tE X.K cls W F ca)) (hb : PE X b (tE X.K cls W F cb)) : PE X (.BinOp a (bopO o) b pos) (tE X.K cls W F (.bin o ca cb)) :=
  PEm (pe_op (bopR_op X o) ha hb) fun σ H Q ⟨B, L, w, s, o, hR, e, k, hx⟩ => by
    rw [evE] at e
    refine tE_bd hR e hx fun x s1 w1 v1 H1 x1 R1 o1 e1 hx1 => tE_bd R1 e1 hx1 fun y s2 w2 v2 H2 x2 R2 o2 e2 hx2 => ?_
    obtain ⟨d, d', r, l1, l2, eo, rfl⟩ := look2_some e2
    exact bop_ok R2 (R2.rd l1 (o1.mono x2.toGr)) (R2.rd l2 o2) eo fun w' v H' ex R' res => k r s2 rfl w' v H' (x1.trans (x2.trans ex)) R' res
theorem r_neg (ha : PE X a (tE X.K cls W F ca)) : PE X (.UnaryOp .USub a pos) (tE X.K cls W F (.neg ca)) :=
  PEm (pe_un un_neg ha) fun σ H Q ⟨B, L, w, s, o, hR, e, k, hx⟩ => by
    rw [evE] at e
    refine tE_bd hR e hx fun x s1 w1 v1 H1 x1 R1 o1 e1 hx1 => ?_
    obtain ⟨d, l, e2⟩ := lkp_some e1
    obtain ⟨r, e3, rfl⟩ := op_some e2
    split at e3
    · cases e3
      exact ⟨_, (R1.rd l o1).int, k _ _ rfl w1 _ H1 x1 R1 (res_sh rep_int)⟩
    · cases e3
theorem r_nt (ha : PE X a (tE X.K cls W F ca)) : PE X (.UnaryOp .Not a pos) (tE X.K cls W F (.nt ca)) :=
  PEm (pe_not ha) fun σ H Q ⟨B, L, w, s, o, hR, e, k, hx⟩ => by
    rw [evE] at e
    refine tE_bd hR e hx fun x s1 w1 v1 H1 x1 R1 o1 e1 hx1 => ?_
    obtain ⟨d, l, e2⟩ := lkp_some e1
    obtain ⟨r, e3, rfl⟩ := op_some e2
    split at e3
    · cases e3
      exact ⟨_, (R1.rd l o1).bl, k _ _ rfl w1 _ H1 x1 R1 (res_sh rep_bl)⟩
    · cases e3
variable {rest : List Expr}
theorem r_an (ha : PE X a (tE X.K cls W F ca)) (hb : PE X (.BoolOp .And (b :: rest) pos) (tE X.K cls W F cb)) : PE X (.BoolOp .And (a :: b :: rest) pos) (tE X.K cls W F (.an ca cb)) :=
  PEm (pe_and ha hb) fun σ H Q ⟨B, L, w, s, o, hR, e, k, hx⟩ => by
    rw [evE] at e
    refine tE_bd hR e hx fun x s1 w1 v1 H1 x1 R1 o1 e1 hx1 => ?_
    obtain ⟨d, l, e2⟩ := lkp_some e1
    split at e2
    · refine ⟨true, (R1.rd l o1).bl, ?_⟩
      rw [if_pos rfl]
      refine tE_bd R1 e2 hx1 fun y s2 w2 v2 H2 x2 R2 o2 e3 hx2 => ?_
      obtain ⟨d', l', e4⟩ := lkp_some e3
      obtain ⟨r, e5, rfl⟩ := op_some e4
      split at e5
      · cases e5
        rw [(R2.rd l' o2).bl]
        exact k _ _ rfl w2 _ H2 (x1.trans x2) R2 (res_sh rep_bl)
      · cases e5
    · cases e2
      refine ⟨false, (R1.rd l o1).bl, ?_⟩
      rw [if_neg Bool.false_ne_true]
      exact k _ _ rfl w1 _ H1 x1 R1 (res_sh rep_bl)
    · cases e2
theorem r_or (ha : PE X a (tE X.K cls W F ca)) (hb : PE X (.BoolOp .Or (b :: rest) pos) (tE X.K cls W F cb)) : PE X (.BoolOp .Or (a :: b :: rest) pos) (tE X.K cls W F (.orr ca cb)) :=
  PEm (pe_or ha hb) fun σ H Q ⟨B, L, w, s, o, hR, e, k, hx⟩ => by
    rw [evE] at e
    refine tE_bd hR e hx fun x s1 w1 v1 H1 x1 R1 o1 e1 hx1 => ?_
    obtain ⟨d, l, e2⟩ := lkp_some e1
    split at e2
    · refine ⟨false, (R1.rd l o1).bl, ?_⟩
      rw [if_neg Bool.false_ne_true]
      refine tE_bd R1 e2 hx1 fun y s2 w2 v2 H2 x2 R2 o2 e3 hx2 => ?_
      obtain ⟨d', l', e4⟩ := lkp_some e3
      obtain ⟨r, e5, rfl⟩ := op_some e4
      split at e5
      · cases e5
        rw [(R2.rd l' o2).bl]
        exact k _ _ rfl w2 _ H2 (x1.trans x2) R2 (res_sh rep_bl)
      · cases e5
    · cases e2
      refine ⟨true, (R1.rd l o1).bl, ?_⟩
      rw [if_pos rfl]
      exact k _ _ rfl w1 _ H1 x1 R1 (res_sh rep_bl)
    · cases e2
/-- a value, or another where that is none -/
theorem r_orv (ha : PE X a (tE X.K cls W F ca)) (hb : PE X (.BoolOp .Or (b :: rest) pos) (tE X.K cls W F cb)) : PE X (.BoolOp .Or (a :: b :: rest) pos) (tE X.K cls W F (.orv ca cb)) :=
  PEm (pe_orT ha hb) fun σ H Q ⟨B, L, w, s, o, hR, e, k, hx⟩ => by
    rw [evE] at e
    refine tE_bd hR e hx fun x s1 w1 v1 H1 x1 R1 o1 e1 hx1 => ?_
    obtain ⟨d, l, e2⟩ := lkp_some e1
    split at e2
    · refine ⟨false, ?_, ?_⟩
      · rw [(R1.rd l o1).non]
        exact rfl
      · rw [if_neg Bool.false_ne_true]
        exact ⟨B, L, w1, s1, o, R1, e2, fun y s' eo w' v H' ex R' hr => k y s' eo w' v H' (x1.trans ex) R' hr, hx1⟩
    · cases e2
      obtain ⟨p, vs, rfl, h1, h2⟩ := (R1.rd l o1).tup R1.gh
      refine ⟨true, .inr (.inl ⟨vs, h1, ?_⟩), ?_⟩
      · cases vs with
        | nil =>
          have := h2.len
          cases this
        | cons _ _ => rfl
      · rw [if_pos rfl]
        exact k _ _ rfl w1 _ H1 x1 R1 (res_sh (tup_rd (R1.rd l o1)))
    · cases e2
/-- a comparison, as a value and as a test -/
theorem cmp_rd {o : Cop} {σ : L2.St} {H : Hp} {Q : VK} (h : tE X.K cls W F (.cmp o ca cb) σ H Q) : tOp (copR X.K o) (tE X.K cls W F ca) (tE X.K cls W F cb) σ H Q := by
  obtain ⟨B, L, w, s, o, hR, e, k, hx⟩ := h
  rw [evE] at e
  refine tE_bd hR e hx fun x s1 w1 v1 H1 x1 R1 o1 e1 hx1 => tE_bd R1 e1 hx1 fun y s2 w2 v2 H2 x2 R2 o2 e2 hx2 => ?_
  obtain ⟨d, d', r, l1, l2, eo, rfl⟩ := look2_some e2
  cases hc : cop _ d d' with
  | none => rw [hc] at eo; cases eo
  | some c =>
    rw [hc] at eo
    cases eo
    exact cop_ok R2 (R2.rd l1 (o1.mono x2.toGr)) (R2.rd l2 o2) hc (k _ s2 rfl w2 _ H2 (x1.trans x2) R2 (res_sh rep_bl))
theorem r_cmp {o : Cop} {k : Nat} (hr : Room k X.A) (hm : behindInMarks (copO o) b = false) (ha : PE X a (tE X.K cls W F ca)) (hb : PE X b (tE X.K cls W F cb)) : PE X (.Compare a [copO o] [b] pos) (tE X.K cls W F (.cmp o ca cb)) :=
  PEm (pe_cmpR (copR_op X hr o) ha hb hm) fun σ H Q h => cmp_rd h
theorem ch_rd {o o' : Cop} {σ : L2.St} {H : Hp} {Q : VK} (h : tE X.K cls W F (.ch o o' ca cb cc) σ H Q) : tChain (copR X.K o) (copR X.K o') (tE X.K cls W F ca) (tE X.K cls W F cb) (tE X.K cls W F cc) σ H Q := by
  obtain ⟨B, L, w, s, out, hR, e, k, hx⟩ := h
  rw [evE] at e
  refine tE_bd hR e hx fun x s1 w1 v1 H1 x1 R1 o1 e1 hx1 => tE_bd R1 e1 hx1 fun y s2 w2 v2 H2 x2 R2 o2 e2 hx2 => ?_
  unfold bd at e2
  cases hl : look2 x y (fun d d' => (cop o d d').map fun c => R.sh (.bl c)) s2 with
  | none => rw [hl] at e2; cases e2
  | some z =>
    obtain ⟨d, d', r, l1, l2, eo, rfl⟩ := look2_some hl
    rw [hl] at e2
    cases hc : cop o d d' with
    | none => rw [hc] at eo; cases eo
    | some c =>
      rw [hc] at eo
      cases eo
      refine cop_ok R2 (R2.rd l1 (o1.mono x2.toGr)) (R2.rd l2 o2) hc ⟨c, rfl, ?_⟩
      cases c with
      | false =>
        rw [if_neg Bool.false_ne_true]
        have e3 : some (Out.ok (R.sh (.bl false)) s2) = some _ := e2
        cases e3
        exact k _ s2 rfl w2 _ H2 (x1.trans x2) R2 (res_sh rep_bl)
      | true =>
        rw [if_pos rfl]
        have e3 : bd (evE F cc) (fun u => look2 y u fun d d' => (cop o' d d').map fun c => R.sh (.bl c)) s2 = some _ := e2
        refine tE_bd R2 e3 hx2 fun u s3 w3 v3 H3 x3 R3 o3 e4 hx3 => ?_
        obtain ⟨p, p', r, q1, q2, q3, rfl⟩ := look2_some e4
        cases hc' : cop o' p p' with
        | none => rw [hc'] at q3; cases q3
        | some c =>
          rw [hc'] at q3
          cases q3
          exact cop_ok R3 (R3.rd q1 (o2.mono x3.toGr)) (R3.rd q2 o3) hc' (k _ s3 rfl w3 _ H3 (x1.trans (x2.trans x3)) R3 (res_sh rep_bl))
theorem r_ch {o o' : Cop} {k : Nat} (hr : Room k X.A) (hm : lastMarks [copO o, copO o'] [b, c] = false) (ha : PE X a (tE X.K cls W F ca)) (hb : PE X b (tE X.K cls W F cb)) (hc : PE X c (tE X.K cls W F cc)) :
    PE X (.Compare a [copO o, copO o'] [b, c] pos) (tE X.K cls W F (.ch o o' ca cb cc)) :=
  PEm (pe_chain (copR_op X hr o) (copR_op X hr o') ha hb hc hm) fun σ H Q h => ch_rd h
/-- three in a chain -/
def tChain3 (r r' r'' : R2) (ta tb tc td : TE) : TE := fun σ H Q => ta σ H fun x H1 => tb σ H1 fun y H2 => r x y H2 fun z H3 => ∃ k, z = .bl k ∧
  (if k = true then tc σ H3 fun u H4 => r' y u H4 fun z' H5 => ∃ k', z' = .bl k' ∧ (if k' = true then td σ H5 fun v H6 => r'' u v H6 Q else Q (.bl false) H5) else Q (.bl false) H3)
theorem pe_chain3 {d : Expr} {op op' op'' : CmpOp} {r r' r'' : R2} {ta tb tc td : TE} (ho : OpR X (compareOp op) r) (ho' : OpR X (compareOp op') r') (ho'' : OpR X (compareOp op'') r'') (ha : PE X a ta) (hb : PE X b tb) (hc : PE X c tc) (hd : PE X d td)
    (hm : lastMarks [op, op', op''] [b, c, d] = false) : PE X (.Compare a [op, op', op''] [b, c, d] pos) (tChain3 r r' r'' ta tb tc td) := by
  refine ⟨fun pins s σ H Q I h => ?_⟩
  refine Compare_chain (thn (ha.run pins s σ H _ I h) fun v s1 ⟨x, H1, I1, r1, q1⟩ => chain_link (thn (hb.run pins s1 σ H1 _ I1 q1) fun u s2 ⟨y, H2, I2, r2, q2⟩ =>
    thn (ho pins s2 σ H2 x y v u _ I2 r1 r2 q2) fun d s3 ⟨z, H3, I3, r3, k, e, q3⟩ => ?_)) hm
  subst e
  cases r3
  refine wpAny_truthy_bool ?_
  cases k with
  | false => exact ite_ff ⟨.bl false, H3, I3, rfl, q3⟩
  | true =>
    refine ite_tt (chain_link (thn (hc.run pins s3 σ H3 _ I3 q3) fun w' s4 ⟨z', H4, I4, r4, q4⟩ => thn (ho' pins s4 σ H4 y z' u w' _ I4 r2 r4 q4) fun d' s5 ⟨z5, H5, I5, r5, k5, e5, q5⟩ => ?_))
    subst e5
    cases r5
    refine wpAny_truthy_bool ?_
    cases k5 with
    | false => exact ite_ff ⟨.bl false, H5, I5, rfl, q5⟩
    | true => exact ite_tt (chain_last (thn (hd.run pins s5 σ H5 _ I5 q5) fun w6 s6 ⟨z6, H6, I6, r6, q6⟩ => ho'' pins s6 σ H6 z' z6 w' w6 Q I6 r4 r6 q6))
theorem pt_chain3 {d : Expr} {op op' op'' : CmpOp} {r r' r'' : R2} {ta tb tc td : TE} (ho : OpR X (compareOp op) r) (ho' : OpR X (compareOp op') r') (ho'' : OpR X (compareOp op'') r'') (ha : PE X a ta) (hb : PE X b tb) (hc : PE X c tc) (hd : PE X d td)
    (hm : lastMarks [op, op', op''] [b, c, d] = false) : PT X (.Compare a [op, op', op''] [b, c, d] pos) (tTest (tChain3 r r' r'' ta tb tc td)) := by
  refine ⟨fun pins s σ H Q I h => ?_⟩
  refine isTrue_chain (thn (ha.run pins s σ H _ I h) fun v s1 ⟨x, H1, I1, r1, q1⟩ => test_link (thn (hb.run pins s1 σ H1 _ I1 q1) fun u s2 ⟨y, H2, I2, r2, q2⟩ =>
    thn (ho pins s2 σ H2 x y v u _ I2 r1 r2 q2) fun d s3 ⟨z, H3, I3, r3, k, e, q3⟩ => ?_)) hm
  subst e
  cases r3
  refine wpAny_truthy_bool ?_
  cases k with
  | false =>
    obtain ⟨k', e', q'⟩ := q3
    cases e'
    exact ite_ff ⟨H3, I3, q'⟩
  | true =>
    refine ite_tt (test_link (thn (hc.run pins s3 σ H3 _ I3 q3) fun w' s4 ⟨z', H4, I4, r4, q4⟩ => thn (ho' pins s4 σ H4 y z' u w' _ I4 r2 r4 q4) fun d' s5 ⟨z5, H5, I5, r5, k5, e5, q5⟩ => ?_))
    subst e5
    cases r5
    refine wpAny_truthy_bool ?_
    cases k5 with
    | false =>
      obtain ⟨k', e', q'⟩ := q5
      cases e'
      exact ite_ff ⟨H5, I5, q'⟩
    | true =>
      refine ite_tt (test_last (thn (hd.run pins s5 σ H5 _ I5 q5) fun w6 s6 ⟨z6, H6, I6, r6, q6⟩ => thn (ho'' pins s6 σ H6 z' z6 w' w6 _ I6 r4 r6 q6) fun d7 s7 ⟨z7, H7, I7, r7, k7, e7, q7⟩ => ?_))
      subst e7
      cases r7
      exact wpAny_truthy_bool ⟨H7, I7, q7⟩
theorem ch3_rd {o o' o'' : Cop} {cd : Ex} {σ : L2.St} {H : Hp} {Q : VK} (h : tE X.K cls W F (.ch3 o o' o'' ca cb cc cd) σ H Q) : tChain3 (copR X.K o) (copR X.K o') (copR X.K o'') (tE X.K cls W F ca) (tE X.K cls W F cb) (tE X.K cls W F cc) (tE X.K cls W F cd) σ H Q := by
  obtain ⟨B, L, w, s, out, hR, e, k, hx⟩ := h
  rw [evE] at e
  refine tE_bd hR e hx fun x s1 w1 v1 H1 x1 R1 o1 e1 hx1 => tE_bd R1 e1 hx1 fun y s2 w2 v2 H2 x2 R2 o2 e2 hx2 => ?_
  unfold bd at e2
  cases hl : look2 x y (fun d d' => (cop o d d').map fun c => R.sh (.bl c)) s2 with
  | none => rw [hl] at e2; cases e2
  | some z =>
    obtain ⟨d, d', r, l1, l2, eo, rfl⟩ := look2_some hl
    rw [hl] at e2
    cases hc : cop o d d' with
    | none => rw [hc] at eo; cases eo
    | some c =>
      rw [hc] at eo
      cases eo
      refine cop_ok R2 (R2.rd l1 (o1.mono x2.toGr)) (R2.rd l2 o2) hc ⟨c, rfl, ?_⟩
      cases c with
      | false =>
        rw [if_neg Bool.false_ne_true]
        have e3 : some (Out.ok (R.sh (.bl false)) s2) = some _ := e2
        cases e3
        exact k _ s2 rfl w2 _ H2 (x1.trans x2) R2 (res_sh rep_bl)
      | true =>
        rw [if_pos rfl]
        have e3 : bd (evE F cc) (fun u => bd (look2 y u fun d d' => (cop o' d d').map fun c => R.sh (.bl c)) fun z' => bd (lkp z') fun d' => match d' with
          | .bl true => bd (evE F cd) fun v => look2 u v fun d d' => (cop o'' d d').map fun c => R.sh (.bl c)
          | .bl false => pu (.sh (.bl false))
          | _ => fun _ => none) s2 = some _ := e2
        refine tE_bd R2 e3 hx2 fun u s3 w3 v3 H3 x3 R3 o3 e4 hx3 => ?_
        unfold bd at e4
        cases hl' : look2 y u (fun d d' => (cop o' d d').map fun c => R.sh (.bl c)) s3 with
        | none => rw [hl'] at e4; cases e4
        | some z' =>
          obtain ⟨p, p', r', q1, q2, q3, rfl⟩ := look2_some hl'
          rw [hl'] at e4
          cases hc' : cop o' p p' with
          | none => rw [hc'] at q3; cases q3
          | some c' =>
            rw [hc'] at q3
            cases q3
            refine cop_ok R3 (R3.rd q1 (o2.mono x3.toGr)) (R3.rd q2 o3) hc' ⟨c', rfl, ?_⟩
            cases c' with
            | false =>
              rw [if_neg Bool.false_ne_true]
              have e5 : some (Out.ok (R.sh (.bl false)) s3) = some _ := e4
              cases e5
              exact k _ s3 rfl w3 _ H3 (x1.trans (x2.trans x3)) R3 (res_sh rep_bl)
            | true =>
              rw [if_pos rfl]
              have e5 : bd (evE F cd) (fun v => look2 u v fun d d' => (cop o'' d d').map fun c => R.sh (.bl c)) s3 = some _ := e4
              refine tE_bd R3 e5 hx3 fun v s4 w4 v4 H4 x4 R4 o4 e6 hx4 => ?_
              obtain ⟨m, m', r'', g1, g2, g3, rfl⟩ := look2_some e6
              cases hc'' : cop o'' m m' with
              | none => rw [hc''] at g3; cases g3
              | some c'' =>
                rw [hc''] at g3
                cases g3
                exact cop_ok R4 (R4.rd g1 (o3.mono x4.toGr)) (R4.rd g2 o4) hc'' (k _ s4 rfl w4 _ H4 (x1.trans (x2.trans (x3.trans x4))) R4 (res_sh rep_bl))
theorem r_ch3 {d : Expr} {cd : Ex} {o o' o'' : Cop} {k : Nat} (hr : Room k X.A) (hm : lastMarks [copO o, copO o', copO o''] [b, c, d] = false) (ha : PE X a (tE X.K cls W F ca)) (hb : PE X b (tE X.K cls W F cb)) (hc : PE X c (tE X.K cls W F cc)) (hd : PE X d (tE X.K cls W F cd)) :
    PE X (.Compare a [copO o, copO o', copO o''] [b, c, d] pos) (tE X.K cls W F (.ch3 o o' o'' ca cb cc cd)) :=
  PEm (pe_chain3 (copR_op X hr o) (copR_op X hr o') (copR_op X hr o'') ha hb hc hd hm) fun σ H Q h => ch3_rd h
/-! ### tests -/
theorem tr_bd {γ : Type} {B : Hp} {L : Nat → Option Addr} {w : Wr} {s : Sx} {σ : L2.St} {H : Hp} {f : Bool → M γ} {o : Out γ} {Q : Bool → Hp → Prop} (hR : Rel X.K B L w s σ H) (e : bd (bd (evE F ca) truM) f s = some o) (hx : XP X.K cls W B L w σ o)
    (k : ∀ b s1 w1 H1, Ext B w w1 → Rel X.K B L w1 s1 σ H1 → f b s1 = some o → XP X.K cls W B L w1 σ o → Q b H1) : tTr X.K cls W F ca σ H Q :=
  tM_bd hR e hx fun b s1 w1 b' H1 ex R1 hr e1 hx1 => by
    have hr' : b = b' := hr
    subst hr'
    exact k b s1 w1 H1 ex R1 e1 hx1
theorem truM_some {x : R} {s : Sx} {o : Out Bool} (e : truM x s = some o) : ∃ d c, look s x = some d ∧ truD d = some c ∧ o = .ok c s := by
  unfold truM at e
  obtain ⟨d, l, e⟩ := lkp_some e
  obtain ⟨c, h, rfl⟩ := op_some e
  exact ⟨d, c, l, h, rfl⟩
/-- a test that is its value's truth -/
theorem tr_val {e : Expr} (h : PE X e (tE X.K cls W F ca)) (he : ∀ whole, isTrue e X.env whole = (do let v ← whole; standAt e.pos; holding [v] (truthy v))) : PT X e (tTr X.K cls W F ca) :=
  PTm (pt_truth h he) fun σ H Q ⟨B, L, w, s, o, hR, e, k, hx⟩ => by
    refine tE_bd hR e hx fun x s1 w1 v1 H1 x1 R1 o1 e1 hx1 => ?_
    obtain ⟨d, c, l, h, rfl⟩ := truM_some e1
    exact ⟨c, tru_ok' (R1.rd l o1) h, k c s1 rfl w1 c H1 x1 R1 rfl⟩
/-- a reading as a bool -/
theorem tr_of {σ : L2.St} {H : Hp} {Q : Bool → Hp → Prop} (h : tTr X.K cls W F ca σ H Q) : tE X.K cls W F ca σ H fun x H' => (∀ c, x = .bl c → Q c H') := by
  obtain ⟨B, L, w, s, o, hR, e, k, hx⟩ := h
  refine tE_bd hR e hx fun x s1 w1 v1 H1 x1 R1 o1 e1 hx1 c hc => ?_
  obtain ⟨d, c', l, h, rfl⟩ := truM_some e1
  subst hc
  have h2 := tru_ok' (R1.rd l o1) h
  have h3 : c' = c := h2
  subst h3
  exact k _ s1 rfl w1 _ H1 x1 R1 rfl
/-- it gives a truth -/
def IsB (F : Cf) (ca : Ex) : Prop := ∀ s x s', evE F ca s = some (.ok x s') → ∃ c, x = .sh (.bl c)
theorem bd_ok {α β : Type} {m : M α} {f : α → M β} {s s' : Sx} {b : β} (e : bd m f s = some (.ok b s')) : ∃ a s1, m s = some (.ok a s1) ∧ f a s1 = some (.ok b s') := by
  unfold bd at e
  cases h : m s with
  | none => rw [h] at e; cases e
  | some o =>
    rw [h] at e
    cases o with
    | ok a s1 => exact ⟨a, s1, rfl, e⟩
    | exc n s1 => cases e
theorem isB_cmp {o : Cop} : IsB F (.cmp o ca cb) := fun s x s' e => by
  rw [evE] at e
  obtain ⟨_, _, _, e⟩ := bd_ok e
  obtain ⟨_, _, _, e⟩ := bd_ok e
  obtain ⟨d, d', r, l1, l2, eo, h⟩ := look2_some e
  cases h
  cases hc : cop o d d' with
  | none => rw [hc] at eo; cases eo
  | some c => rw [hc] at eo; cases eo; exact ⟨c, rfl⟩
theorem isB_ch {o o' : Cop} : IsB F (.ch o o' ca cb cc) := fun s x s' e => by
  rw [evE] at e
  obtain ⟨_, _, _, e⟩ := bd_ok e
  obtain ⟨y, _, _, e⟩ := bd_ok e
  obtain ⟨_, _, _, e⟩ := bd_ok e
  obtain ⟨d, _, e⟩ := lkp_some e
  split at e
  · obtain ⟨u, _, _, e⟩ := bd_ok e
    obtain ⟨d, d', r, l1, l2, eo, h⟩ := look2_some e
    cases h
    cases hc : cop o' d d' with
    | none => rw [hc] at eo; cases eo
    | some c => rw [hc] at eo; cases eo; exact ⟨c, rfl⟩
  · cases e; exact ⟨_, rfl⟩
  · cases e
theorem isB_ch3 {o o' o'' : Cop} {cd : Ex} : IsB F (.ch3 o o' o'' ca cb cc cd) := fun s x s' e => by
  rw [evE] at e
  obtain ⟨_, _, _, e⟩ := bd_ok e
  obtain ⟨y, _, _, e⟩ := bd_ok e
  obtain ⟨_, _, _, e⟩ := bd_ok e
  obtain ⟨d, _, e⟩ := lkp_some e
  split at e
  · obtain ⟨u, _, _, e⟩ := bd_ok e
    obtain ⟨_, _, _, e⟩ := bd_ok e
    obtain ⟨d', _, e⟩ := lkp_some e
    split at e
    · obtain ⟨v, _, _, e⟩ := bd_ok e
      obtain ⟨d, d', r, l1, l2, eo, h⟩ := look2_some e
      cases h
      cases hc : cop o'' d d' with
      | none => rw [hc] at eo; cases eo
      | some c => rw [hc] at eo; cases eo; exact ⟨c, rfl⟩
    · cases e; exact ⟨_, rfl⟩
    · cases e
  · cases e; exact ⟨_, rfl⟩
  · cases e
theorem tr_to (hb : IsB F ca) {σ : L2.St} {H : Hp} {Q : Bool → Hp → Prop} (h : tTr X.K cls W F ca σ H Q) : tE X.K cls W F ca σ H fun x H' => ∃ k, x = .bl k ∧ Q k H' := by
  obtain ⟨B, L, w, s, o, hR, e, k, hx⟩ := h
  have e0 := e
  unfold bd at e
  cases hE : evE F ca s with
  | none => rw [hE] at e; cases e
  | some z =>
    rw [hE] at e
    cases z with
    | exc n s' =>
      have e' : some (Out.exc n s') = some o := e
      cases e'
      exact ⟨B, L, w, s, _, hR, hE, fun a s' eo => (nomatch eo), fun n s' eo w' H' ex R' => by cases eo; exact hx n _ rfl w' H' ex R'⟩
    | ok x s1 =>
      obtain ⟨c, rfl⟩ := hb s x s1 hE
      have e' : some (Out.ok c s1) = some o := e
      cases e'
      refine ⟨B, L, w, s, _, hR, hE, fun a s' eo w' b H' ex R' hr => ?_, fun n s' eo => (nomatch eo)⟩
      cases eo
      have hr' : Rep X.K w' (.bl c) b := hr
      unfold Rep at hr'
      exact ⟨c, hr', k c _ rfl w' c H' ex R' rfl⟩
theorem isB_nir : IsB F (.nir ca cb) := fun s x s' e => by
  rw [evE] at e
  obtain ⟨_, _, _, e⟩ := bd_ok e
  obtain ⟨_, _, _, e⟩ := bd_ok e
  obtain ⟨d, d', r, l1, l2, eo, h⟩ := look2_some e
  cases h
  unfold nirD at eo
  split at eo
  · cases eo
    exact ⟨_, rfl⟩
  · cases eo
theorem cr_range1 {X : Cx} : CallR X (.type "range") (fun vs H Q => ∃ j, vs = [V.int j] ∧ ∀ p, H p = none → Q (.ref p) (upd H p (.rng 0 j))) := by
  intro pins s σ H vs us Q I r h
  obtain ⟨j, rfl, q⟩ := h
  obtain ⟨u1, rfl, ri⟩ := vals1 r
  obtain ⟨t, rfl⟩ := ri
  refine call_range_1 ⟨.ref s.heap.objs.size, upd H s.heap.objs.size (.rng 0 j), I.laid (t' := s.toks + 1 + 1) (fun b o e => Heap.get?_push_of_some _ e) (Nat.le_refl _) ?_, rfl, q _ (I.hok.fresh (Nat.le_refl _))⟩
  exact ⟨s.toks, t, s.toks + 1, Heap.get?_push_size _ rfl⟩
theorem op_notin_rng {X : Cx} : OpR X (compareOp .NotIn) (fun x y H Q => ∃ i a lo hi, x = V.int i ∧ y = V.ref a ∧ H a = some (.rng lo hi) ∧ Q (.bl (!decide (lo ≤ i ∧ i < hi))) H) := by
  intro pins s σ H x y v u Q I rx ry h
  obtain ⟨i, a, lo, hi, rfl, rfl, ha, q⟩ := h
  obtain ⟨k, rfl⟩ := rx
  obtain rfl : u = Value.ref a := ry
  obtain ⟨t1, t2, t3, ho⟩ := I.hok a _ ha
  show wpAny _ _ (do return Value.bool (!(← contains (Value.ref a) (Value.int i k)))) _ _ s
  refine wpAny_bind (wpAny_contains_slot (T := "range") ⟨_, ho, rfl⟩ F.slot_range_contains (call_meets F.slot_range_contains ⟨_, ho, rfl⟩ F.entry_range_contains (F.args_range_contains_2 _ _) (q_contains a lo hi i t1 t2 t3 k)
    ⟨ho, wpAny_truthy_bool (wpAny_pure ⟨.bl _, H, I, rfl, ?_⟩)⟩))
  rw [place1]
  exact q
def nirR : R2 := fun x y H Q => ∃ i a lo hi, x = V.int i ∧ y = V.ref a ∧ H a = some (.rng lo hi) ∧ Q (.bl (!decide (lo ≤ i ∧ i < hi))) H
def rngR : List V → Hp → VK → Prop := fun vs H Q => ∃ j, vs = [V.int j] ∧ ∀ p, H p = none → Q (.ref p) (upd H p (.rng 0 j))
theorem nir_rd {σ : L2.St} {H : Hp} {Q : VK} {tn : TA} (hn : ∀ {σ : L2.St} {H : Hp} {Q : List V → Hp → Prop}, tE X.K cls W F cb σ H (fun v H1 => Q [v] H1) → tn σ H Q) (h : tE X.K cls W F (.nir ca cb) σ H Q) : tOp nirR (tE X.K cls W F ca) (tCB rngR tn) σ H Q := by
  obtain ⟨B, L, w, s, o, hR, e, k, hx⟩ := h
  rw [evE] at e
  refine tE_bd hR e hx fun x s1 w1 v1 H1 x1 R1 o1 e1 hx1 => hn (tE_bd R1 e1 hx1 fun y s2 w2 v2 H2 x2 R2 o2 e2 hx2 => ?_)
  obtain ⟨d, d', r, l1, l2, eo, rfl⟩ := look2_some e2
  unfold nirD at eo
  split at eo
  · rename_i i j
    cases eo
    refine ⟨j, by rw [(R2.rd l2 o2).int], fun p hp => ⟨i, p, 0, j, (R2.rd l1 (o1.mono x2.toGr)).int, rfl, upd_same, ?_⟩⟩
    exact k _ s2 rfl w2 _ _ (x1.trans x2) (R2.beside hp) (res_sh rep_bl)
  · cases eo
theorem r_nir {n : Expr} {p2 p3 : Pos} (hg : Gl X "range") (hm : X.mg "range" = none) (ha : PE X a (tE X.K cls W F ca)) (hb : PE X n (tE X.K cls W F cb)) (hs : starEach [n] X.env = (false, eval n X.env) :: starEach [] X.env) :
    PE X (.Compare a [.NotIn] [.Call (.Name "range" p2) [n] [] p3] pos) (tE X.K cls W F (.nir ca cb)) :=
  PEm (pe_cmpR (r := nirR) op_notin_rng ha (pe_callTy (r := rngR) cr_range1 hg hm (by decide +kernel) (pa_cons hb pa_nil hs) (by decide +kernel) (by decide +kernel) hs) rfl) fun σ H Q h => nir_rd (fun q => q) h
theorem tr_nir {n : Expr} {p2 p3 : Pos} (hg : Gl X "range") (hm : X.mg "range" = none) (ha : PE X a (tE X.K cls W F ca)) (hb : PE X n (tE X.K cls W F cb)) (hs : starEach [n] X.env = (false, eval n X.env) :: starEach [] X.env) :
    PT X (.Compare a [.NotIn] [.Call (.Name "range" p2) [n] [] p3] pos) (tTr X.K cls W F (.nir ca cb)) :=
  PTm (pt_cmpR (r := nirR) op_notin_rng ha (pe_callTy (r := rngR) cr_range1 hg hm (by decide +kernel) (pa_cons hb pa_nil hs) (by decide +kernel) (by decide +kernel) hs) rfl) fun σ H Q h => nir_rd (fun q => q) (tr_to isB_nir h)
theorem tr_cmp {o : Cop} {k : Nat} (hr : Room k X.A) (hm : behindInMarks (copO o) b = false) (ha : PE X a (tE X.K cls W F ca)) (hb : PE X b (tE X.K cls W F cb)) : PT X (.Compare a [copO o] [b] pos) (tTr X.K cls W F (.cmp o ca cb)) :=
  PTm (pt_cmpR (copR_op X hr o) ha hb hm) fun σ H Q h => cmp_rd (tr_to isB_cmp h)
theorem tr_ch {o o' : Cop} {k : Nat} (hr : Room k X.A) (hm : lastMarks [copO o, copO o'] [b, c] = false) (ha : PE X a (tE X.K cls W F ca)) (hb : PE X b (tE X.K cls W F cb)) (hc : PE X c (tE X.K cls W F cc)) :
    PT X (.Compare a [copO o, copO o'] [b, c] pos) (tTr X.K cls W F (.ch o o' ca cb cc)) :=
  PTm (pt_chain (copR_op X hr o) (copR_op X hr o') ha hb hc hm) fun σ H Q h => ch_rd (tr_to isB_ch h)
theorem tr_ch3 {d : Expr} {cd : Ex} {o o' o'' : Cop} {k : Nat} (hr : Room k X.A) (hm : lastMarks [copO o, copO o', copO o''] [b, c, d] = false) (ha : PE X a (tE X.K cls W F ca)) (hb : PE X b (tE X.K cls W F cb)) (hc : PE X c (tE X.K cls W F cc)) (hd : PE X d (tE X.K cls W F cd)) :
    PT X (.Compare a [copO o, copO o', copO o''] [b, c, d] pos) (tTr X.K cls W F (.ch3 o o' o'' ca cb cc cd)) :=
  PTm (pt_chain3 (copR_op X hr o) (copR_op X hr o') (copR_op X hr o'') ha hb hc hd hm) fun σ H Q h => ch3_rd (tr_to isB_ch3 h)
theorem bd_inv {α β : Type} {m : M α} {f : α → M β} {s : Sx} {o : Out β} (e : bd m f s = some o) : (∃ a s1, m s = some (.ok a s1) ∧ f a s1 = some o) ∨ ∃ n s1, m s = some (.exc n s1) ∧ o = .exc n s1 := by
  unfold bd at e
  cases h : m s with
  | none => rw [h] at e; cases e
  | some q =>
    rw [h] at e
    cases q with
    | ok a s1 => exact .inl ⟨a, s1, rfl, e⟩
    | exc n s1 => cases e; exact .inr ⟨n, s1, rfl, rfl⟩
theorem bd_bd {α β γ : Type} {m : M α} {f : α → M β} {g : β → M γ} : bd (bd m f) g = bd m fun a => bd (f a) g := by
  funext s
  unfold bd
  cases m s with
  | none => rfl
  | some o => cases o <;> rfl
theorem bd_of {α β : Type} {m : M α} {f : α → M β} {s s1 : Sx} {a : α} (e : m s = some (.ok a s1)) : bd m f s = f a s1 := by
  unfold bd; rw [e]
theorem truM_bl {x : R} {s : Sx} {c : Bool} (l : look s x = some (.bl c)) : truM x s = some (.ok c s) := by
  unfold truM bd lkp op?
  rw [l]
  rfl
/-- not -/
theorem tr_nt (ha : PT X a (tTr X.K cls W F ca)) : PT X (.UnaryOp .Not a pos) (tTr X.K cls W F (.nt ca)) :=
  PTm (pt_not ha) fun σ H Q ⟨B, L, w, s, o, hR, e, k, hx⟩ => by
    rw [evE, bd_bd] at e
    rcases bd_inv e with ⟨x, s1, h1, e⟩ | ⟨n, s1, h1, rfl⟩
    · rw [bd_bd] at e
      obtain ⟨d, l, e⟩ := lkp_some e
      split at e
      · rename_i c
        have e' : some (Out.ok (!c) s1) = some o := e
        cases e'
        refine ⟨B, L, w, s, _, hR, (bd_of h1).trans (truM_bl l), fun a s' eo w' b H' ex R' hr => ?_, fun n s' eo => (nomatch eo)⟩
        cases eo
        have hr' : _ = b := hr
        subst hr'
        exact k _ _ rfl w' _ H' ex R' rfl
      · cases e
    · exact ⟨B, L, w, s, .exc n s1, hR, (show bd (evE F ca) truM s = _ by unfold bd; rw [h1]), fun a s' eo => (nomatch eo), fun n s' eo w' H' ex R' => by cases eo; exact hx n _ rfl w' H' ex R'⟩
theorem tr_exc {n : Str} {s s1 : Sx} (h : evE F ca s = some (.exc n s1)) : bd (evE F ca) truM s = some (.exc n s1) := by
  unfold bd; rw [h]
/-- the last of and, or -/
theorem tail_bl {s : Sx} {o : Out Bool} (e : bd (bd (evE F cb) fun y => bd (lkp y) fun d' => op? (match d' with
      | .bl c => some (R.sh (.bl c))
      | _ => none)) truM s = some o) : bd (evE F cb) truM s = some o := by
  rw [bd_bd] at e
  rcases bd_inv e with ⟨x, s1, h1, e⟩ | ⟨n, s1, h1, rfl⟩
  · rw [bd_bd] at e
    obtain ⟨d, l, e⟩ := lkp_some e
    split at e
    · rename_i c
      have e' : some (Out.ok c s1) = some o := e
      cases e'
      exact (bd_of h1).trans (truM_bl l)
    · cases e
  · exact tr_exc h1
theorem tr_an (ha : PT X a (tTr X.K cls W F ca)) (hb : PW X (.BoolOp .And (b :: rest) pos) (tTr X.K cls W F cb)) : PW X (.BoolOp .And (a :: b :: rest) pos) (tTr X.K cls W F (.an ca cb)) :=
  PWm (pw_and ha hb) fun σ H Q ⟨B, L, w, s, o, hR, e, k, hx⟩ => by
    rw [evE, bd_bd] at e
    rcases bd_inv e with ⟨x, s1, h1, e⟩ | ⟨n, s1, h1, rfl⟩
    · rw [bd_bd] at e
      obtain ⟨d, l, e⟩ := lkp_some e
      split at e
      · refine ⟨B, L, w, s, _, hR, (bd_of h1).trans (truM_bl l), fun a s' eo w' b H' ex R' hr => ?_, fun n s' eo => (nomatch eo)⟩
        cases eo
        have hr' : _ = b := hr
        subst hr'
        rw [if_pos rfl]
        exact ⟨B, L, w', _, o, R', tail_bl e, fun c s2 eo w2 b2 H2 ex2 R2 hr2 => k c s2 eo w2 b2 H2 (ex.trans ex2) R2 hr2, hx.mono ex⟩
      · have e' : some (Out.ok false s1) = some o := e
        cases e'
        refine ⟨B, L, w, s, _, hR, (bd_of h1).trans (truM_bl l), fun a s' eo w' b H' ex R' hr => ?_, fun n s' eo => (nomatch eo)⟩
        cases eo
        have hr' : _ = b := hr
        subst hr'
        rw [if_neg Bool.false_ne_true]
        exact k _ _ rfl w' _ H' ex R' rfl
      · cases e
    · exact ⟨B, L, w, s, .exc n s1, hR, tr_exc h1, fun a s' eo => (nomatch eo), fun n s' eo w' H' ex R' => by cases eo; exact hx n _ rfl w' H' ex R'⟩
theorem tr_or (ha : PT X a (tTr X.K cls W F ca)) (hb : PW X (.BoolOp .Or (b :: rest) pos) (tTr X.K cls W F cb)) : PW X (.BoolOp .Or (a :: b :: rest) pos) (tTr X.K cls W F (.orr ca cb)) :=
  PWm (pw_or ha hb) fun σ H Q ⟨B, L, w, s, o, hR, e, k, hx⟩ => by
    rw [evE, bd_bd] at e
    rcases bd_inv e with ⟨x, s1, h1, e⟩ | ⟨n, s1, h1, rfl⟩
    · rw [bd_bd] at e
      obtain ⟨d, l, e⟩ := lkp_some e
      split at e
      · refine ⟨B, L, w, s, _, hR, (bd_of h1).trans (truM_bl l), fun a s' eo w' b H' ex R' hr => ?_, fun n s' eo => (nomatch eo)⟩
        cases eo
        have hr' : _ = b := hr
        subst hr'
        rw [if_neg Bool.false_ne_true]
        exact ⟨B, L, w', _, o, R', tail_bl e, fun c s2 eo w2 b2 H2 ex2 R2 hr2 => k c s2 eo w2 b2 H2 (ex.trans ex2) R2 hr2, hx.mono ex⟩
      · have e' : some (Out.ok true s1) = some o := e
        cases e'
        refine ⟨B, L, w, s, _, hR, (bd_of h1).trans (truM_bl l), fun a s' eo w' b H' ex R' hr => ?_, fun n s' eo => (nomatch eo)⟩
        cases eo
        have hr' : _ = b := hr
        subst hr'
        rw [if_pos rfl]
        exact k _ _ rfl w' _ H' ex R' rfl
      · cases e
    · exact ⟨B, L, w, s, .exc n s1, hR, tr_exc h1, fun a s' eo => (nomatch eo), fun n s' eo w' H' ex R' => by cases eo; exact hx n _ rfl w' H' ex R'⟩
theorem r_ife {t : Expr} {ct : Ex} (ht : PT X t (tTr X.K cls W F ct)) (ha : PE X a (tE X.K cls W F ca)) (hb : PE X b (tE X.K cls W F cb)) : PE X (.IfExp t a b pos) (tE X.K cls W F (.ife ct ca cb)) :=
  PEm (pe_ifExp ht ha hb) fun σ H Q ⟨B, L, w, s, o, hR, e, k, hx⟩ => by
    rw [evE, ← bd_bd] at e
    refine tr_bd hR e hx fun c s1 w1 H1 x1 R1 e1 hx1 => ?_
    cases c with
    | true =>
      rw [if_pos rfl]
      exact ⟨B, L, w1, s1, o, R1, e1, fun c s2 eo w2 b2 H2 ex2 R2 hr2 => k c s2 eo w2 b2 H2 (x1.trans ex2) R2 hr2, hx1⟩
    | false =>
      rw [if_neg Bool.false_ne_true]
      exact ⟨B, L, w1, s1, o, R1, e1, fun c s2 eo w2 b2 H2 ex2 R2 hr2 => k c s2 eo w2 b2 H2 (x1.trans ex2) R2 hr2, hx1⟩
/-! ### argument lists, displays -/
variable {es : List Expr} {cs : Exs}
theorem r_nil : PA X [] (tAs X.K cls W F .nil) := PAm pa_nil fun σ H Q ⟨B, L, w, s, o, hR, e, k, hx⟩ => by
  rw [evAs] at e
  cases e
  exact k [] s rfl w [] H Ext.refl hR rfl
theorem r_cons (ha : PE X a (tE X.K cls W F ca)) (hr : PA X es (tAs X.K cls W F cs)) (hs : starEach (a :: es) X.env = (false, eval a X.env) :: starEach es X.env) : PA X (a :: es) (tAs X.K cls W F (.cons ca cs)) :=
  PAm (pa_cons ha hr hs) fun σ H Q ⟨B, L, w, s, o, hR, e, k, hx⟩ => by
    rw [evAs] at e
    refine tE_bd hR e hx fun x s1 w1 v1 H1 x1 R1 o1 e1 hx1 => tM_bd R1 e1 hx1 fun xs s2 w2 vs H2 x2 R2 o2 e2 hx2 => ?_
    have e3 : some (Out.ok (x :: xs) s2) = some o := e2
    cases e3
    exact k _ _ rfl w2 _ H2 (x1.trans x2) R2 ⟨v1, vs, rfl, o1.mono x2.toGr, o2⟩
theorem r_tup {k0 : Nat} (h : PA X es (tAs X.K cls W F cs)) : PE X (.Tuple es k0 pos) (tE X.K cls W F (.tup cs)) :=
  PEm (pe_tup h) fun σ H Q ⟨B, L, w, s, o, hR, e, k, hx⟩ => by
    rw [evE] at e
    refine tM_bd hR e hx fun rs s1 w1 vs H1 x1 R1 o1 e1 hx1 => ?_
    obtain ⟨ds, s2, w2, e2, x2, R2, p2, c2⟩ := escs_bd R1 o1 e1
    split at e2
    · rename_i hz
      cases e2
      refine ⟨by rw [p2.len, sizeLine_eq]; exact hz, fun p hp => ?_⟩
      obtain ⟨w3, x3, R3, rp⟩ := R2.newTup p2 hp
      exact k _ _ rfl w3 _ _ (x1.trans (x2.trans x3)) R3 rp
    · cases e2
theorem r_lst (h : PA X es (tAs X.K cls W F cs)) : PE X (.List es pos) (tE X.K cls W F (.lst cs)) :=
  PEm (pe_lst h) fun σ H Q ⟨B, L, w, s, o, hR, e, k, hx⟩ => by
    rw [evE] at e
    refine tM_bd hR e hx fun rs s1 w1 vs H1 x1 R1 o1 e1 hx1 => ?_
    obtain ⟨ds, s2, w2, e2, x2, R2, p2, c2⟩ := escs_bd R1 o1 e1
    split at e2
    · rename_i hz
      cases e2
      refine ⟨by rw [p2.len, sizeLine_eq]; exact hz, fun p hp => ?_⟩
      obtain ⟨R3, rp⟩ := R2.newOwn p2 hp
      exact k _ _ rfl w2 _ _ (x1.trans x2) R3 rp
    · cases e2
theorem getElem?_snoc {α : Type} {l : List α} {x y : α} {n : Nat} (h : (l ++ [x])[n]? = some y) : l[n]? = some y ∨ (n = l.length ∧ y = x) := by
  by_cases hn : n < l.length
  · rw [List.getElem?_append_left hn] at h; exact .inl h
  · rw [List.getElem?_append_right (by omega)] at h
    by_cases h0 : n - l.length = 0
    · rw [h0] at h
      cases h
      exact .inr ⟨by omega, rfl⟩
    · rw [List.getElem?_eq_none (by simp; omega)] at h; cases h
/-- a thing that none owns is a list with an identity from now on -/
theorem Rel.newCel {K : PySem.W.Frag} {B : Hp} {L : Nat → Option Addr} {w : Wr} {s : Sx} {σ : L2.St} {H : Hp} (R : Rel K B L w s σ H) {p : Addr} {ds : List D} {vs : List V} (hp : H p = some (.lst vs)) (p2 : Reps K w ds vs) (f1 : w.G p = none) (f2 : B p = none) (f3 : p ∉ w.ca) (fo : ∀ (i : Nat) d, s.e[i]? = some (some ⟨.ow, d⟩) → σ[i]? ≠ some (some (.ref p))) :
    ∃ w', Ext B w w' ∧ Rel K B L w' { s with c := s.c ++ [ds] } σ H ∧ Rep K w' (.cel s.c.length) (.ref p) := by
  have gr : Gr w { w with ca := w.ca ++ [p] } := ⟨fun _ _ h => h, [p], rfl⟩
  have ex : Ext B w { w with ca := w.ca ++ [p] } := ⟨gr, fun _ _ => rfl⟩
  refine ⟨{ w with ca := w.ca ++ [p] }, ex, ⟨R.gh, R.bh, R.len, fun i d h => ?_, fun i d h => ?_, fun i d h => ?_, R.lk', R.inj, ?_, fun n ds' h => ?_, fun a h => ?_, ?_⟩, ?_⟩
  · obtain ⟨v, q1, q2⟩ := R.sh i d h
    exact ⟨v, q1, q2.mono gr⟩
  · obtain ⟨a, q1, q2, q3, q4, q5⟩ := R.ow i d h
    refine ⟨a, q1, q2, q3, fun q => ?_, q5.mono gr rfl⟩
    rcases List.mem_append.mp q with q | q
    · exact q4 q
    · have z : a = p := by simpa using q
      exact fo i d h (by rw [← z]; exact q1)
  · obtain ⟨a, q1, q2, q3, q4, q5⟩ := R.lk i d h
    exact ⟨a, q1, q2, q3, q4, q5.mono gr rfl⟩
  · refine List.nodup_append.mpr ⟨R.cn, by simp, fun a ha b hb => ?_⟩
    have z : b = p := by simpa using hb
    rw [z]
    exact fun q => f3 (by rw [← q]; exact ha)
  · rcases getElem?_snoc h with h' | ⟨h', rfl⟩
    · obtain ⟨a, us, q1, q2, q3⟩ := R.cl n ds' h'
      exact ⟨a, us, gr.cell q1, q2, q3.mono gr⟩
    · refine ⟨p, vs, ?_, hp, p2.mono gr⟩
      rw [h', R.clen]
      show (w.ca ++ [p])[w.ca.length]? = some p
      rw [List.getElem?_append_right (Nat.le_refl _), Nat.sub_self]
      rfl
  · rcases List.mem_append.mp h with q | q
    · exact R.cf a q
    · have z : a = p := by simpa using q
      rw [z]
      exact ⟨f1, f2⟩
  · show (s.c ++ [ds]).length = (w.ca ++ [p]).length
    rw [List.length_append, List.length_append, R.clen]
    rfl
  · unfold Rep
    refine ⟨p, ?_, rfl⟩
    rw [R.clen]
    show (w.ca ++ [p])[w.ca.length]? = some p
    rw [List.getElem?_append_right (Nat.le_refl _), Nat.sub_self]
    rfl
/-- a list with an identity -/
theorem r_cel (h : PA X es (tAs X.K cls W F cs)) : PE X (.List es pos) (tE X.K cls W F (.cel cs)) :=
  PEm (pe_lst h) fun σ H Q ⟨B, L, w, s, o, hR, e, k, hx⟩ => by
    rw [evE] at e
    refine tM_bd hR e hx fun rs s1 w1 vs H1 x1 R1 o1 e1 hx1 => ?_
    obtain ⟨ds, s2, w2, e2, x2, R2, p2, c2⟩ := escs_bd R1 o1 e1
    split at e2
    · rename_i hz
      cases e2
      refine ⟨by rw [p2.len, sizeLine_eq]; exact hz, fun p hp => ?_⟩
      obtain ⟨f1, f2, f3⟩ := R2.freshNot hp
      have R3 := R2.beside (o := .lst vs) hp
      obtain ⟨w4, x4, R4, rp⟩ := R3.newCel upd_same p2 f1 f2 f3 (R2.freshNotOw hp)
      exact k _ _ rfl w4 _ _ (x1.trans (x2.trans x4)) R4 (res_sh rp)
    · cases e2
/-- a new list that is to have an identity -/
theorem r_celOf {e0 : Expr} (ha : PE X e0 (tE X.K cls W F ca)) : PE X e0 (tE X.K cls W F (.celOf ca)) :=
  PEm ha fun σ H Q ⟨B, L, w, s, o, hR, e, k, hx⟩ => by
    rw [evE] at e
    refine tM_bd hR e hx fun x s1 w1 v1 H1 x1 R1 o1 e1 hx1 => ?_
    unfold celOfM at e1
    split at e1
    · rename_i ds
      cases e1
      obtain ⟨p, rfl, f1, f2, f3, ⟨vs, h1, h2⟩, fo⟩ := o1
      obtain ⟨w4, x4, R4, rp⟩ := R1.newCel h1 h2 f1 f2 f3 fo
      exact k _ _ rfl w4 _ _ (x1.trans x4) R4 (res_sh rp)
    · cases e1
end
end PV
set_option maxHeartbeats 4000000
/-! Expressions: subscripts, calls. -/
namespace PV
open PySem PySem.Spec PyProof.Rows L2
/-! ### calls of defs -/
def ArgsRel (K : PySem.W.Frag) (B : Hp) (L : Nat → Option Addr) (w : Wr) (as : List Sl) (c : List (List D)) (vs : List V) (H : Hp) : Prop :=
  Rel K B L w ⟨as.map some, c⟩ (vs.map some) H ∧ ∀ x, x ∈ as → x.k ≠ .ow
def crR (fr : Bool) (d : D) : R := match fr with
  | true => .fr d
  | false => .sh d
/-- what a def promises: what the evaluator says of it -/
def spF (K : PySem.W.Frag) (cls : Str → Value) (F : Cf) (f : Str) : Sp := fun vs H Q E => ∃ B L w as c r, ArgsRel K B L w as c vs H ∧ F f as c = some r ∧
  (∀ fr d c', r = .ok fr d c' → ∀ w' v H', Ext B w w' → Rel K B (fun _ => none) w' ⟨[], c'⟩ [] H' → ResOk K B w' ⟨[], c'⟩ [] H' (crR fr d) v → Q v H') ∧
  ∀ n c', r = .exc n c' → ∀ w' H', Ext B w w' → Rel K B (fun _ => none) w' ⟨[], c'⟩ [] H' → E (cls n) none H'
/-- all that stands at a call but the cells -/
def Bc (w : Wr) (H : Hp) : Hp := fun a => if a ∈ w.ca then none else H a
section
variable {K : PySem.W.Frag} {cls : Str → Value} {W : WX} {B : Hp} {L : Nat → Option Addr} {w w' : Wr} {s s' : Sx} {σ : L2.St} {H H' : Hp}
theorem bc_of {a : Addr} (h : a ∉ w.ca) : Bc w H a = H a := by unfold Bc; rw [if_neg h]
theorem bc_in {a : Addr} (h : a ∈ w.ca) : Bc w H a = none := by unfold Bc; rw [if_pos h]
theorem bc_le {a : Addr} {o : HO} (h : Bc w H a = some o) : H a = some o := by
  unfold Bc at h
  split at h
  · cases h
  · exact h
theorem bc_none {a : Addr} (h : Bc w H a = none) (hc : a ∉ w.ca) : H a = none := by rw [bc_of hc] at h; exact h
theorem slsOf_get : ∀ {rs : List R} {as : List Sl} {vs : List V}, slsOf s rs = some as → OpsOk K w σ rs vs →
    as.length = vs.length ∧ ∀ (j : Nat) sl v, as[j]? = some sl → vs[j]? = some v → ∃ r, slOf s r = some sl ∧ OpOk K w σ r v
  | [], as, vs, e, h => by
    cases e
    have h' : vs = [] := h
    subst h'
    exact ⟨rfl, fun j sl v q => by simp at q⟩
  | r :: rs, as, vs, e, h => by
    obtain ⟨v, us, rfl, h1, h2⟩ := h
    unfold slsOf at e
    split at e
    · rename_i x xs e1 e2
      cases e
      obtain ⟨hl, hg⟩ := slsOf_get e2 h2
      refine ⟨by rw [List.length_cons, List.length_cons, hl], fun j sl v' q1 q2 => ?_⟩
      cases j with
      | zero =>
        rw [List.getElem?_cons_zero] at q1 q2
        cases q1; cases q2
        exact ⟨r, e1, h1⟩
      | succ j =>
        rw [List.getElem?_cons_succ] at q1 q2
        exact hg j sl v' q1 q2
    · cases e
theorem map_some_get {α : Type} {l : List α} {i : Nat} {x : α} (h : (l.map some)[i]? = some (some x)) : l[i]? = some x := by
  rw [List.getElem?_map] at h
  cases e : l[i]? with
  | none => rw [e] at h; cases h
  | some y => rw [e] at h; cases h; rfl
theorem map_some_of {α : Type} {l : List α} {i : Nat} {x : α} (h : l[i]? = some x) : (l.map some)[i]? = some (some x) := by
  rw [List.getElem?_map, h]; rfl
theorem call_args (r : Rel K B L w s σ H) {rs : List R} {as : List Sl} {vs : List V} (e : slsOf s rs = some as) (h : OpsOk K w σ rs vs) : ∃ L', ArgsRel K (Bc w H) L' w as s.c vs H := by
  obtain ⟨hl, hg⟩ := slsOf_get e h
  have get : ∀ (j : Nat) sl, as[j]? = some sl → ∃ v, vs[j]? = some v := fun j sl q => by
    have hj := (List.getElem?_eq_some_iff.mp q).1
    exact ⟨_, List.getElem?_eq_getElem (by rw [← hl]; exact hj)⟩
  -- an argument's slot
  have arg : ∀ (j : Nat) sl v, as[j]? = some sl → vs[j]? = some v → (sl.k = .sh ∧ Rep K w sl.d v) ∨ (sl.k = .lk ∧ ∃ a, v = .ref a ∧ w.G a = none ∧ a ∉ w.ca ∧ Own K w H a sl.d) := fun j sl v q1 q2 => by
    obtain ⟨x, e1, o1⟩ := hg j sl v q1 q2
    cases x with
    | sh d => cases e1; exact .inl ⟨rfl, o1⟩
    | fr d =>
      cases d with
      | lst ds => cases e1; exact .inl ⟨rfl, o1⟩
      | _ => cases e1
    | nm i =>
      have o2 : σ[i]? = some (some v) := o1
      unfold slOf at e1
      split at e1
      · rename_i z; cases z
      · rename_i z; cases z
      · rename_i z; cases z
      · rename_i i' z
        cases z
        split at e1
        · rename_i k d hd
          cases e1
          cases k with
          | sh =>
            obtain ⟨v', q3, q4⟩ := r.sh i d hd
            rw [o2] at q3; cases q3
            exact .inl ⟨rfl, q4⟩
          | ow =>
            obtain ⟨a, q3, q4, q5, q6, q7⟩ := r.ow i d hd
            rw [o2] at q3; cases q3
            exact .inr ⟨rfl, a, rfl, q4, q6, q7⟩
          | lk =>
            obtain ⟨a, q3, q4, q5, q6, q7⟩ := r.lk i d hd
            rw [o2] at q3; cases q3
            exact .inr ⟨rfl, a, rfl, q4, fun z => q5 (r.cf a z).2, q7⟩
        · cases e1
  refine ⟨fun j => match as[j]?, vs[j]? with
    | some ⟨.lk, _⟩, some (.ref a) => some a
    | _, _ => none, ⟨r.gh, fun a o h => bc_le h, by rw [List.length_map, List.length_map, hl], fun j d q => ?_, fun j d q => ?_, fun j d q => ?_, fun j a q => ?_, fun i j d d' a q => ?_, r.cn, r.cl, fun a q => ⟨(r.cf a q).1, bc_in q⟩, r.clen⟩, fun x hx => ?_⟩
  · have q' := map_some_get q
    obtain ⟨v, hv⟩ := get j _ q'
    rcases arg j _ v q' hv with ⟨_, h2⟩ | ⟨h1, _⟩
    · exact ⟨v, map_some_of hv, h2⟩
    · cases h1
  · have q' := map_some_get q
    obtain ⟨v, hv⟩ := get j _ q'
    rcases arg j _ v q' hv with ⟨h1, _⟩ | ⟨h1, _⟩ <;> cases h1
  · have q' := map_some_get q
    obtain ⟨v, hv⟩ := get j _ q'
    rcases arg j _ v q' hv with ⟨h1, _⟩ | ⟨_, a, rfl, h2, h3, h4⟩
    · cases h1
    · refine ⟨a, map_some_of hv, h2, ?_, ?_, h4⟩
      · rw [bc_of h3]
        obtain ⟨o, z⟩ := h4.there
        rw [z]; exact fun y => nomatch y
      · rw [q', hv]
  · split at q
    · rename_i d a' e1 e2
      exact ⟨d, map_some_of e1⟩
    · cases q
  · have q' := map_some_get q
    obtain ⟨v, hv⟩ := get i _ q'
    rcases arg i _ v q' hv with ⟨h1, _⟩ | ⟨h1, _⟩ <;> cases h1
  · obtain ⟨j, hj⟩ := List.mem_iff_getElem?.mp hx
    obtain ⟨v, hv⟩ := get j x hj
    rcases arg j x v hj hv with ⟨h1, _⟩ | ⟨h1, _⟩ <;> (rw [h1]; exact fun z => nomatch z)
/-- shared arguments -/
theorem call_argsS (r : Rel K B L w s σ H) {ds : List D} {vs : List V} (h : Reps K w ds vs) : ∃ L', ArgsRel K (Bc w H) L' w (ds.map fun d => ⟨.sh, d⟩) s.c vs H := by
  refine ⟨fun _ => none, ⟨r.gh, fun a o h => bc_le h, by rw [List.length_map, List.length_map, List.length_map, h.len], fun j d q => ?_, fun j d q => ?_, fun j d q => ?_, fun j a q => (nomatch q), fun i j d d' a q => ?_, r.cn, r.cl, fun a q => ⟨(r.cf a q).1, bc_in q⟩, r.clen⟩, fun x hx => ?_⟩
  · have q' := map_some_get q
    rw [List.getElem?_map] at q'
    cases e : ds[j]? with
    | none => rw [e] at q'; cases q'
    | some d' =>
      rw [e] at q'; cases q'
      obtain ⟨v, e2, h2⟩ := h.get e
      exact ⟨v, map_some_of e2, h2⟩
  · have q' := map_some_get q
    rw [List.getElem?_map] at q'
    cases e : ds[j]? with
    | none => rw [e] at q'; cases q'
    | some d' => rw [e] at q'; cases q'
  · have q' := map_some_get q
    rw [List.getElem?_map] at q'
    cases e : ds[j]? with
    | none => rw [e] at q'; cases q'
    | some d' => rw [e] at q'; cases q'
  · have q' := map_some_get q
    rw [List.getElem?_map] at q'
    cases e : ds[i]? with
    | none => rw [e] at q'; cases q'
    | some d' => rw [e] at q'; cases q'
  · obtain ⟨d, _, rfl⟩ := List.mem_map.mp hx
    exact fun z => nomatch z
/-- behind a call -/
theorem call_back (r : Rel K B L w s σ H) {c' : List (List D)} (ex : Ext (Bc w H) w w') (r' : Rel K (Bc w H) (fun _ => none) w' ⟨[], c'⟩ [] H') :
    Ext B w w' ∧ Rel K B L w' { s with c := c' } σ H' ∧ ∀ fr d v, ResOk K (Bc w H) w' ⟨[], c'⟩ [] H' (crR fr d) v → ResOk K B w' { s with c := c' } σ H' (crR fr d) v := by
  have sub : ∀ a, B a ≠ none → Bc w H a ≠ none := fun a h => by
    cases e : B a with
    | none => exact absurd e h
    | some o =>
      have hc : a ∉ w.ca := fun z => by rw [(r.cf a z).2] at e; cases e
      rw [bc_of hc, r.bh a o e]
      exact fun z => nomatch z
  have out : ∀ a, Bc w H a ≠ none → a ∉ w'.ca := fun a h z => h (r'.cf a z).2
  have stand : ∀ a o, a ∉ w.ca → H a = some o → H' a = some o := fun a o hc e => r'.bh a o (by rw [bc_of hc]; exact e)
  have ownB : ∀ {a : Addr} {d : D}, a ∉ w.ca → Own K w H a d → Bc w H a ≠ none := fun {a d} hc h => by
    obtain ⟨o, e⟩ := h.there
    rw [bc_of hc, e]; exact fun z => nomatch z
  have ownK : ∀ {a : Addr} {d : D}, a ∉ w.ca → Own K w H a d → Own K w' H' a d := fun {a d} hc h => by
    obtain ⟨o, e⟩ := h.there
    exact h.mono ex.toGr ((stand a o hc e).trans e.symm)
  have lkc : ∀ {i : Nat} {d : D} {a : Addr}, B a ≠ none → a ∉ w.ca := fun {i d a} h z => h (r.cf a z).2
  refine ⟨ex.sub sub, ⟨r'.gh, fun a o h => ?_, r.len, fun i d h => ?_, fun i d h => ?_, fun i d h => ?_, r.lk', r.inj, r'.cn, r'.cl, fun a h => ?_, r'.clen⟩, fun fr d v h => ?_⟩
  · refine stand a o (fun z => ?_) (r.bh a o h)
    rw [(r.cf a z).2] at h; cases h
  · obtain ⟨v, q1, q2⟩ := r.sh i d h
    exact ⟨v, q1, q2.mono ex.toGr⟩
  · obtain ⟨a, q1, q2, q3, q4, q5⟩ := r.ow i d h
    refine ⟨a, q1, ?_, q3, out a (ownB q4 q5), ownK q4 q5⟩
    rw [ex.f a (ownB q4 q5)]; exact q2
  · obtain ⟨a, q1, q2, q3, q4, q5⟩ := r.lk i d h
    have hc : a ∉ w.ca := fun z => q3 (r.cf a z).2
    refine ⟨a, q1, ?_, q3, q4, ownK hc q5⟩
    rw [ex.f a (ownB hc q5)]; exact q2
  · refine ⟨(r'.cf a h).1, ?_⟩
    cases e : B a with
    | none => rfl
    | some o => exact absurd (r'.cf a h).2 (sub a (by rw [e]; exact fun z => nomatch z))
  · cases fr with
    | false => exact h
    | true =>
      obtain ⟨a, rfl, q1, q2, q3, q4, _⟩ := h
      refine ⟨a, rfl, q1, ?_, q3, q4, fun i d' hi e => ?_⟩
      · cases e : B a with
        | none => rfl
        | some o => exact absurd q2 (sub a (by rw [e]; exact fun z => nomatch z))
      · obtain ⟨b, p1, p2, p3, p4, p5⟩ := r.ow i d' hi
        have p1' : σ[i]? = some (some (.ref b)) := p1
        have e' : σ[i]? = some (some (.ref a)) := e
        rw [p1'] at e'
        cases e'
        exact ownB p4 p5 q2
end
/-- a def of the text -/
structure FnAt (X : Cx) (cls : Str → Value) (F : Cf) (f : Str) : Prop where
  dbg : (f == ("__debug__" : Str)) = false
  ex : ∃ (a : Addr) (fd : FuncData) (ps : List Str) (k : Nat), X.mg f = some (.ref a) ∧ PySem.W.keepIn X.K (.ref a) = true ∧ Binds X.K fd ps [] ∧ Room k X.A ∧ FnOk X.prog X.w X.K X.mg X.base (L2.CX X.prog X.w) k a fd ps (spF X.K cls F f)
section
variable {X : Cx} {cls : Str → Value} {W : WX} {F : Cf} {pos p : Pos} {a b : Expr} {ca cb : Ex} {es : List Expr} {cs : Exs}
theorem call_core {f : Str} {as : List Sl} {vs : List V} {B : Hp} {L L' : Nat → Option Addr} {w : Wr} {s : Sx} {σ : L2.St} {H : Hp} {Q : VK} {o : Out R} (hR : Rel X.K B L w s σ H) (hA : ArgsRel X.K (Bc w H) L' w as s.c vs H) (e : runF F f as s = some o)
    (k : ∀ r s', o = .ok r s' → ∀ w' v H', Ext B w w' → Rel X.K B L w' s' σ H' → ResOk X.K B w' s' σ H' r v → Q v H') (hx : XP X.K cls W B L w σ o) : spF X.K cls F f vs H Q (WE W σ) := by
  unfold runF at e
  cases hF : F f as s.c with
  | none => rw [hF] at e; cases e
  | some r =>
    rw [hF] at e
    refine ⟨Bc w H, L', w, as, s.c, r, hA, hF, fun fr d c' er w' v H' ex R' res => ?_, fun n c' er w' H' ex R' => ?_⟩
    · subst er
      obtain ⟨x2, R2, f2⟩ := call_back hR ex R'
      have e' : some (Out.ok (crR fr d) { s with c := c' }) = some o := e
      cases e'
      exact k _ _ rfl w' v H' x2 R2 (f2 fr d v res)
    · subst er
      obtain ⟨x2, R2, _⟩ := call_back hR ex R'
      have e' : some (Out.exc n { s with c := c' }) = some o := e
      cases e'
      exact hx n _ rfl w' H' x2 R2
theorem r_call {f : Str} {share : Bool} (G : FnAt X cls F f) (hg : Gl X f) (tk : Takes X W) (ha : PA X (a :: es) (tAs X.K cls W F cs)) (he : starEach (a :: es) X.env = (false, eval a X.env) :: starEach es X.env) (hpl : (backTo pos (starEach es X.env)).any (·.1) = false) :
    PE X (.Call (.Name f p) (a :: es) [] pos) (tE X.K cls W F (.call share f cs)) := by
  obtain ⟨fa, fd, ps, k, hm, hk, hb, hr, ok⟩ := G.ex
  refine PEm (pe_callS ok hr hg hm hk hb (fun σ => passAt tk σ) ha G.dbg he hpl) fun σ H Q ⟨B, L, w, s, o, hR, e, k, hx⟩ => ?_
  rw [evE] at e
  refine tM_bd hR e hx fun rs s1 w1 vs H1 x1 R1 o1 e1 hx1 => ?_
  cases share with
  | true =>
    have e1' : bd (escs rs) (fun ds => runF F f (ds.map fun d => ⟨.sh, d⟩)) s1 = some o := by
      rw [← e1]
      show _ = bd (bd (escs rs) fun ds => pu (ds.map fun d => (⟨.sh, d⟩ : Sl))) (fun as => runF F f as) s1
      rw [bd_bd]
      rfl
    obtain ⟨ds, s2, w2, e2, x2, R2, p2, c2⟩ := escs_bd R1 o1 e1'
    obtain ⟨L', hA⟩ := call_argsS R2 p2
    exact call_core R2 hA e2 (fun r s' eo w' v H' ex R' res => k r s' eo w' v H' (x1.trans (x2.trans ex)) R' res) (hx1.mono x2)
  | false =>
    have e1' : bd (fun s => op? (slsOf s rs) s) (runF F f) s1 = some o := e1
    rcases bd_inv e1' with ⟨as, s2, h1, h2⟩ | ⟨n, s2, h1, _⟩
    · obtain ⟨as', h3, h4⟩ := op_some h1
      cases h4
      obtain ⟨L', hA⟩ := call_args R1 h3 o1
      exact call_core R1 hA h2 (fun r s' eo w' v H' ex R' res => k r s' eo w' v H' (x1.trans ex) R' res) hx1
    · obtain ⟨as', h3, h4⟩ := op_some h1
      cases h4
/-- a call of a local name that holds a def -/
theorem pe_callVS {CX : CXT} {k i : Nat} {f : Addr} {fd : FuncData} {ps : List Str} {sp : Sp} {E : L2.St → XK} {x : Str} {e : Expr} {es : List Expr} {t : TA} {p pos : Pos} (F : FnOk X.prog X.w X.K X.mg X.base CX k f fd ps sp) (hr : Room k X.A) (hk : PySem.W.keepIn X.K (.ref f) = true) (hb : Binds X.K fd ps []) (hx : ∀ σ, PassesAt CX X σ (E σ))
    (hN : X.N[i]? = some x) (hv : Vis X.env.scope x) (ha : PA X (e :: es) t) (hd : (x == ("__debug__" : Str)) = false) (hcd : (x == ("__classdict__" : Str)) = false)
    (he : starEach (e :: es) X.env = (false, eval e X.env) :: starEach es X.env) (hpl : (backTo pos (starEach es X.env)).any (·.1) = false) :
    PE X (.Call (.Name x p) (e :: es) [] pos) (fun σ H Q => σ[i]? = some (some (.ref f)) ∧ tCallS sp E t σ H Q) := by
  refine ⟨fun pins s σ H Q I h => ?_⟩
  obtain ⟨hs, h⟩ := h
  refine wpAny_Call_Name_kw (thn ((pe_var (pos := p) (i := i) hN hv hd hcd).run pins s σ H (fun v H1 => v = .ref f ∧ H1 = H) I ⟨.ref f, hs, rfl, rfl⟩) fun u s1 ⟨v, H1, I1, r1, ev, eH⟩ => ?_)
  subst ev
  rw [eH] at I1
  cases r1
  refine PySem.W.callWith_K (h₀ := X.base) I.ok.mod.kin hk (thn (ha.run pos pins s1 σ H _ I1 h) fun us s2 ⟨vs, H2, I2, r, q⟩ => ⟨I2.kIn, ?_⟩) he hpl
  exact run_fnS F hr hb (hx σ) I2 r q
theorem r_callV {i : Nat} {x : Str} {fs : List Str} (G : ∀ f, f ∈ fs → FnAt X cls F f ∧ ∃ a, PySem.W.nsIn X.K mainGlobals f = some (some (.ref a)) ∧ X.mg f = some (.ref a)) (tk : Takes X W) (hN : X.N[i]? = some x) (hv : Vis X.env.scope x) (hd : (x == ("__debug__" : Str)) = false) (hcd : (x == ("__classdict__" : Str)) = false)
    (ha : PA X (a :: es) (tAs X.K cls W F cs)) (he : starEach (a :: es) X.env = (false, eval a X.env) :: starEach es X.env) (hpl : (backTo pos (starEach es X.env)).any (·.1) = false) :
    PE X (.Call (.Name x p) (a :: es) [] pos) (tE X.K cls W F (.callV i fs cs)) := by
  refine ⟨fun pins s0 σ H Q I ⟨B, L, w, s, o, hR, e, k, hx⟩ => ?_⟩
  rw [evE] at e
  dsimp only at e
  split at e
  · rename_i f hi
    split at e
    · rename_i hf
      obtain ⟨G1, a0, g1, g2⟩ := G f (by simpa using hf)
      obtain ⟨fa, fd, ps, kk, hm, hk, hb, hr, ok⟩ := G1.ex
      rw [g2] at hm
      cases hm
      refine (pe_callVS (p := p) (pos := pos) ok hr hk hb (fun σ => passAt tk σ) hN hv ha hd hcd he hpl).run pins s0 σ H Q I ⟨?_, ?_⟩
      · obtain ⟨v, q1, q2⟩ := hR.sh i _ hi
        unfold Rep at q2
        obtain ⟨b, rfl, q3⟩ := q2
        rw [g1] at q3
        cases q3
        exact q1
      · refine tM_bd hR e hx fun rs s1 w1 vs H1 x1 R1 o1 e1 hx1 => ?_
        have e1' : bd (fun s => op? (slsOf s rs) s) (runF F f) s1 = some o := e1
        rcases bd_inv e1' with ⟨as, s2, h1, h2⟩ | ⟨n, s2, h1, _⟩
        · obtain ⟨as', h3, h4⟩ := op_some h1
          cases h4
          obtain ⟨L', hA⟩ := call_args R1 h3 o1
          exact call_core R1 hA h2 (fun r s' eo w' v H' ex R' res => k r s' eo w' v H' (x1.trans ex) R' res) hx1
        · obtain ⟨as', h3, h4⟩ := op_some h1
          cases h4
    · cases e
  · cases e
/-! ### subscripts -/
theorem ixN_eq (n : Nat) (i : Int) : ixN n i = L2.ixN n i := rfl
theorem atD_V {K : PySem.W.Frag} {w : Wr} {ds : List D} {vs : List V} {i : Int} {d : D} (h : Reps K w ds vs) (e : atD ds i = some d) : ∃ v, atI vs i = some v ∧ Rep K w d v := by
  unfold atD at e
  split at e
  · rename_i j e1
    obtain ⟨v, e2, r⟩ := h.get e
    refine ⟨v, ?_, r⟩
    unfold atI
    rw [h.len, ← ixN_eq, e1]
    exact e2
  · cases e
theorem r_ix (ha : PE X a (tE X.K cls W F ca)) (hb : PE X b (tE X.K cls W F cb)) (hp : PlainIx b) : PE X (.Subscript a b pos) (tE X.K cls W F (.ix ca cb)) :=
  PEm (pe_ix ix_seq ha hb hp) fun σ H Q ⟨B, L, w, s, o, hR, e, k, hx⟩ => by
    rw [evE] at e
    refine tE_bd hR e hx fun x s1 w1 v1 H1 x1 R1 o1 e1 hx1 => tE_bd R1 e1 hx1 fun y s2 w2 v2 H2 x2 R2 o2 e2 hx2 => ?_
    obtain ⟨d, l1, e3⟩ := lkp_some e2
    obtain ⟨d', l2, e4⟩ := lkp_some e3
    obtain ⟨r, e5, rfl⟩ := op_some e4
    have g1 := R2.rd l1 (o1.mono x2.toGr)
    have g2 := R2.rd l2 o2
    cases hi : ixD d d' with
    | none => rw [hi] at e5; cases e5
    | some q =>
      rw [hi] at e5
      cases e5
      have fin : ∀ v, Rep X.K w2 q v → Q v H2 := fun v rp => k _ _ rfl w2 v H2 (x1.trans x2) R2 rp
      unfold ixD at hi
      split at hi
      · obtain ⟨p, vs, rfl, h1, h2⟩ := g1.lst R2.gh
        obtain ⟨v, h3, h4⟩ := atD_V h2 hi
        exact .inl ⟨p, vs, _, v, rfl, g2.int, SqL.of h1, h3, fin v h4⟩
      · obtain ⟨p, vs, rfl, h1, h2⟩ := g1.fl R2.gh
        obtain ⟨v, h3, h4⟩ := atD_V h2 hi
        exact .inl ⟨p, vs, _, v, rfl, g2.int, h1, h3, fin v h4⟩
      · obtain ⟨p, vs, rfl, h1, h2⟩ := g1.tup R2.gh
        obtain ⟨v, h3, h4⟩ := atD_V h2 hi
        exact .inr (.inl ⟨p, vs, _, v, rfl, g2.int, h1, h3, fin v h4⟩)
      · split at hi
        · rename_i hz
          split at hi
          · rename_i c hc
            cases hi
            exact .inr (.inr ⟨_, _, c, g1.str, g2.int, by rw [sizeLine_eq]; exact hz, hc, fin _ rep_str⟩)
          · cases hi
        · cases hi
      · cases hi
theorem sIx_eq (n d : Nat) (o : Option Int) : sIx n d o = HT.sIx n d o := by cases o <;> rfl
theorem cut_rep {K : PySem.W.Frag} {w : Wr} {ds : List D} {vs : List V} (h : Reps K w ds vs) (lo hi : Option Int) : Reps K w (cut ds lo hi) (cutV vs lo hi) := by
  unfold cut cutV
  rw [sIx_eq, sIx_eq, h.len]
  exact (h.drop _).take _
theorem r_o0 : PO X none (tOp' X.K cls W F .none) := POm po_none fun σ H Q ⟨B, L, w, s, o, hR, e, k, hx⟩ => by
  rw [evO] at e
  cases e
  exact k none s rfl w none H Ext.refl hR rfl
theorem r_o1 (ha : PE X a (tE X.K cls W F ca)) : PO X (some a) (tOp' X.K cls W F (.some ca)) := POm (po_some ha) fun σ H Q ⟨B, L, w, s, o, hR, e, k, hx⟩ => by
  rw [evO] at e
  refine tE_bd hR e hx fun x s1 w1 v1 H1 x1 R1 o1 e1 hx1 => ?_
  unfold intO at e1
  rw [bd_bd] at e1
  obtain ⟨d, l, e2⟩ := lkp_some e1
  split at e2
  · have e3 : some (Out.ok (some _) s1) = some o := e2
    cases e3
    exact ⟨_, (R1.rd l o1).int, k _ _ rfl w1 _ H1 x1 R1 rfl⟩
  · cases e2
theorem r_sl {lo hi : Option Expr} {cl ch : Exo} {p2 : Pos} (ha : PE X a (tE X.K cls W F ca)) (hl : PO X lo (tOp' X.K cls W F cl)) (hh : PO X hi (tOp' X.K cls W F ch)) : PE X (.Subscript a (.Slice lo hi none p2) pos) (tE X.K cls W F (.sl ca cl ch)) :=
  PEm (pe_slice (sl_list.or (sl_tup.or sl_str)) ha hl hh) fun σ H Q ⟨B, L, w, s, o, hR, e, k, hx⟩ => by
    rw [evE] at e
    refine tE_bd hR e hx fun x s1 w1 v1 H1 x1 R1 o1 e1 hx1 => tM_bd R1 e1 hx1 fun l s2 w2 l' H2 x2 R2 o2 e2 hx2 => tM_bd R2 e2 hx2 fun h s3 w3 h' H3 x3 R3 o3 e3 hx3 => ?_
    have z2 : l = l' := o2
    have z3 : h = h' := o3
    subst z2 z3
    obtain ⟨d, l1, e4⟩ := lkp_some e3
    obtain ⟨r, e5, rfl⟩ := op_some e4
    have g1 := R3.rd l1 (o1.mono (x2.trans x3).toGr)
    have xx := x1.trans (x2.trans x3)
    unfold slD at e5
    split at e5
    · cases e5
      obtain ⟨p, vs, rfl, h1, h2⟩ := g1.lst R3.gh
      refine .inl ⟨p, vs, rfl, SqL.of h1, fun q hq => ?_⟩
      obtain ⟨R4, o4⟩ := R3.newOwn (cut_rep h2 _ _) hq
      exact k _ _ rfl w3 _ _ xx R4 o4
    · cases e5
      obtain ⟨p, vs, rfl, h1, h2⟩ := g1.fl R3.gh
      refine .inl ⟨p, vs, rfl, h1, fun q hq => ?_⟩
      obtain ⟨R4, o4⟩ := R3.newOwn (cut_rep h2 _ _) hq
      exact k _ _ rfl w3 _ _ xx R4 o4
    · split at e5
      · cases e5
      · rename_i hn
        cases e5
        obtain ⟨p, vs, rfl, h1, h2⟩ := g1.tup R3.gh
        refine .inr (.inl ⟨p, vs, rfl, h1, ?_, fun q hq => ?_⟩)
        · rw [h2.len, ← sIx_eq, ← sIx_eq]; exact hn
        · obtain ⟨w4, x4, R4, rp⟩ := R3.newTup (cut_rep h2 _ _) hq
          exact k _ _ rfl w4 _ _ (xx.trans x4) R4 rp
    · split at e5
      · rename_i hz
        cases e5
        exact .inr (.inr ⟨_, g1.str, by rw [sizeLine_eq]; exact hz, k _ _ rfl w3 _ _ xx R3 (res_sh rep_str)⟩)
      · cases e5
    · cases e5
/-! ### from behind -/
theorem picks_back (x : Str) : ((Builtin.Str.strSliceIndices none none (-1) x.length).filterMap (x.cps[·]?)) = x.cps.toList.reverse := by
  show ((sliceRange ((x.cps.size : Int) - 1) (-1) (-1)).filterMap (x.cps[·]?)) = _
  rw [PySem.W.krv_sliceRange, PySem.W.krv_range, List.filterMap_reverse, PySem.W.krv_all]
def tRevLS (K : PySem.W.Frag) (te : TE) : TE := fun σ H Q => te σ H fun x H1 => (∃ a xs, x = .ref a ∧ SqL K H1 a xs ∧ ∀ p, H1 p = none → Q (.ref p) (upd H1 p (.lst xs.reverse))) ∨ ∃ i, x = .str i ∧ i.length ≤ 16777216 ∧ Q (.str (revS i)) H1
theorem pe_revLS {X : Cx} {e : Expr} {te : TE} {k : Nat} {p1 p2 p3 pos : Pos} (he : PE X e te) : PE X (.Subscript e (.Slice none none (some (.UnaryOp .USub (.Constant (.int 1) k p1) p2)) p3) pos) (tRevLS X.K te) := by
  refine ⟨fun pins s σ H Q I h => ?_⟩
  refine Subscript_ (thn (he.run pins s σ H _ I h) fun v s1 q1 => ?_)
  obtain ⟨x, H1, I1, r1, q⟩ := q1
  have back : PO X (some (.UnaryOp .USub (.Constant (.int 1) k p1) p2)) (tPart (tUn (rU fun i => .int (-i)) (tC (.int 1)))) := po_some (pe_un un_neg pe_int)
  refine wpAny_Slice (thn (po_none.run pins s1 σ H1 (fun o H2 => o = none ∧ H2 = H1) I1 ⟨rfl, rfl⟩) fun vl s2 q2 => ?_)
  obtain ⟨_, _, I2, pl, rfl, rfl⟩ := q2
  refine thn (po_none.run pins s2 σ _ (fun o H3 => o = none ∧ H3 = _) I2 ⟨rfl, rfl⟩) fun vu s3 q3 => ?_
  obtain ⟨_, _, I3, pu, rfl, rfl⟩ := q3
  refine thn (back.run pins s3 σ _ (fun o H4 => o = some (-1) ∧ H4 = _) I3 ⟨1, rfl, -1, rfl, rfl, rfl⟩) fun vs s4 q4 => ?_
  obtain ⟨_, _, I4, ps, rfl, rfl⟩ := q4
  have I5 := I4.kept (h' := s4.heap.push { cls := .type "slice", data := .fields #[vl, vu, vs] }) (t' := s4.toks) fun b ob q => Heap.get?_push_of_some _ q
  show wpAny _ X.A (subscriptTail e (.Slice none none (some (.UnaryOp .USub (.Constant (.int 1) k p1) p2)) p3) v (.ref s4.heap.objs.size)) (EP X pins σ Q) X.xe _
  rcases q with ⟨a, xs, rfl, hx, q⟩ | ⟨i, rfl, hz, q⟩
  · cases r1
    obtain ⟨its, r, ht, hz⟩ := I5.list hx
    have hlen := r.length
    refine tail_any (ops := [.ref a, .ref s4.heap.objs.size]) ht.isList.typeIs (PySem.slot_list_getitem.lookup) ?_ (by with_unfolding_all rfl)
    refine wpAny_getItem_list_slice ht.isList (Heap.IsSliceOf.new _ vl vu vs) pl pu ps (by decide) ?_ (by rw [List.size_toArray]; omega)
    rw [PySem.W.krv_pick]
    refine ⟨.ref _, _, I5.laid (t' := s4.toks) (o := .lst xs.reverse) (fun b ob q => Heap.get?_push_of_some _ q) (Nat.le_refl _) ?_, rfl, q _ (I5.hok.fresh (Nat.le_refl _))⟩
    exact ⟨by rw [List.length_reverse]; exact hz, _, 0, r.reverse, Heap.get?_push_size _ rfl⟩
  · obtain ⟨t, rfl⟩ := r1
    obtain ⟨l, rfl, hl⟩ := IsPart.raw pl
    obtain ⟨u, rfl, hu⟩ := IsPart.raw pu
    obtain ⟨st, rfl, hst⟩ := IsPart.raw ps
    have el : l = none := by cases l <;> first | rfl | cases hl
    have eu : u = none := by cases u <;> first | rfl | cases hu
    subst el eu
    have es : (st.map (·.1)).getD 1 = -1 := by rw [hst]; rfl
    refine tail_any (ops := [.str i t, .ref s4.heap.objs.size]) (typeIs_str _ _ _) (F.slot_str_getitem.lookup) ?_ (by with_unfolding_all rfl)
    refine wpAny_getItem_str_slice (l := none) (u := none) (st := st) ⟨_, Heap.get?_push_size _ rfl, rfl, rfl⟩ (by rw [es]; rfl) ?_
    unfold sliceMade slicePicked
    rw [es, if_neg (by simp)]
    show Made.post (Made.str ⟨((Builtin.Str.strSliceIndices none none (-1) i.length).filterMap (i.cps[·]?)).toArray⟩) _ _
    rw [picks_back]
    have hr : (⟨i.cps.toList.reverse.toArray⟩ : Str).length ≤ sizeLine := by
      show i.cps.toList.reverse.toArray.size ≤ _
      rw [List.size_toArray, List.length_reverse, sizeLine_eq]
      exact hz
    exact ⟨hr, .str _, _, I5.tok _, ⟨_, rfl⟩, q⟩
theorem r_rev {k0 : Nat} {p1 p2 p3 : Pos} (ha : PE X a (tE X.K cls W F ca)) : PE X (.Subscript a (.Slice none none (some (.UnaryOp .USub (.Constant (.int 1) k0 p1) p2)) p3) pos) (tE X.K cls W F (.rev ca)) :=
  PEm (pe_revLS ha) fun σ H Q ⟨B, L, w, s, o, hR, e, k, hx⟩ => by
    rw [evE] at e
    refine tE_bd hR e hx fun x s1 w1 v1 H1 x1 R1 o1 e1 hx1 => ?_
    obtain ⟨d, l1, e4⟩ := lkp_some e1
    obtain ⟨r, e5, rfl⟩ := op_some e4
    have g1 := R1.rd l1 o1
    unfold revD at e5
    split at e5
    · cases e5
      obtain ⟨p, vs, rfl, h1, h2⟩ := g1.lst R1.gh
      refine .inl ⟨p, vs, rfl, SqL.of h1, fun q hq => ?_⟩
      obtain ⟨R4, o4⟩ := R1.newOwn h2.rev hq
      exact k _ _ rfl w1 _ _ x1 R4 o4
    · split at e5
      · rename_i hz
        cases e5
        exact .inr ⟨_, g1.str, hz, k _ _ rfl w1 _ _ x1 R1 (res_sh rep_str)⟩
      · cases e5
    · cases e5
end
end PV
set_option maxHeartbeats 4000000
/-! Built-ins beside those of the kit: min and max of three numbers, min of two tuples of numbers. -/
namespace PV
open PySem PySem.Spec PyProof.Rows L2
section
variable {prog : Program} {w : World} {A : Around} {E : Value → Shared → Prop} {s : Shared}
/-- min(a, b), compared where a heap stands -/
theorem call_min_twoH {a b : Value} {Q : Value → Shared → Prop}
    (h : wpAny (model prog w) A.in1 (pyIter (.ref s.heap.objs.size)) (fun it s₂ => ∃ I fp wr G n P St H bt, it = .ref I ∧ WalksS prog w A.in1 I fp wr G n P St ∧ St 0 s₂ ∧ (∀ b ∈ fp, b < s₂.heap.objs.size) ∧ 0 < n ∧
      (∀ b o, H.get? b = some o → b ∉ wr) ∧ (∀ b o, H.get? b = some o → s₂.heap.get? b = some o) ∧ CmpIn prog w A.in1 .Lt H P bt ∧ ∀ v s', P (argBest bt (n - 1)) v → Moved wr G s₂ s' → Q v s') E
      { s with heap := s.heap.push { cls := .type "tuple", data := .seq #[a, b] } }) :
    wpAny (model prog w) A (call (.builtin "min") [a, b]) Q E s := by
  have hname : (toString "min" ++ toString ".loop" : String) = "min.loop" := by decide
  refine call_function_tree F.kind_min F.plain_min F.entry_min (F.args_min2 _ _) ?_
  show wpAny _ A.in1 (Builtin.Builtins.bindParams "min" ["key", "default"] 0 ⟨[], []⟩ >>= _) _ _ s
  refine wpAny_bind (wpAny_of_eq (show Builtin.Builtins.bindParams "min" ["key", "default"] 0 ⟨[], []⟩ = pure [none, none] from rfl) ?_)
  show wpAny _ A.in1 (newTuple [a, b] >>= _) _ _ s
  refine wpAny_bind (wpAny_newObj_type ?_)
  refine wpAny_bind (wpAny_mono h (fun it s₂ h₂ => ?_) fun _ _ e => e)
  obtain ⟨I, fp, wr, G, n, P, St, H, bt, rfl, W, hst, hfp, hn, hw, hkeep, hcmp, hQ⟩ := h₂
  refine wpAny_bind (wpAny_newObj_type ?_)
  have hSf : s₂.heap.objs.size ∉ fp := fun hm => Nat.lt_irrefl _ (hfp _ hm)
  rw [hname]
  refine wpAny_pure ⟨plainId_quiet F.plain_min_loop _, codeAny_min_loop_firstH W H hw bt hcmp s₂.heap.objs.size hSf (fresh_in hkeep) _ hn (fun b o e => Heap.get?_push_of_some _ (hkeep b o e)) (W.frame 0 s₂ _ s₂.toks hst (Nat.le_refl _) fun b _ o e => Heap.get?_push_of_some _ e) (Heap.get?_push_size _ rfl) fun v s' hP hm => ?_⟩
  exact hQ v s' hP (Moved.drop_new (tk := s₂.toks) hm (Nat.le_refl _))
theorem min_two_tups {a b : Addr} {xs ys : List Value} {ns ms : List Int} {Q : Value → Shared → Prop} (hh : A.handled = none) (ha : IsTup s.heap a xs.toArray) (hb : IsTup s.heap b ys.toArray) (hx : IntsAre xs.toArray.toList ns) (hy : IntsAre ys.toArray.toList ms) (hu : A.units + 1 < cLine)
    (h : ∀ h' tk, (∀ c o, s.heap.get? c = some o → h'.get? c = some o) → Q (if lexLt ms ns then .ref b else .ref a) { s with heap := h', toks := tk }) :
    wpAny (model prog w) A (call (.builtin "min") [.ref a, .ref b]) Q E s := by
  have hT : (s.heap.push { cls := .type "tuple", data := .seq #[.ref a, .ref b] }).IsTuple s.heap.objs.size #[.ref a, .ref b] := ⟨_, Heap.get?_push_size _ rfl, rfl, 0, rfl⟩
  refine call_min_twoH (PySem.W.iter_tupleW (A := A.in1) hh hT fun s₂ e W st hfp hw hk => ?_)
  have ina : A.in1.units < cLine := hu
  refine ⟨_, _, _, _, _, _, _, _, (fun i j => match i, j with
    | 1, 0 => lexLt ms ns
    | 0, 1 => lexLt ns ms
    | 1, 1 => lexLt ms ms
    | _, _ => lexLt ns ns), rfl, W, st, hfp, (Nat.succ_pos 1 : 0 < 2), hw, hk, fun i j vi vj s' Q' E' kp hi hj q => ?_, fun v s' hP m => ?_⟩
  · have old : ∀ c o, s.heap.get? c = some o → s'.heap.get? c = some o := fun c o e => kp c o (Heap.get?_push_of_some _ e)
    have ka := ha.keeps old
    have kb := hb.keeps old
    have two : ∀ {i : Nat} {v : Value}, (#[Value.ref a, Value.ref b] : Array Value)[i]? = some v → (i = 0 ∧ v = .ref a) ∨ (i = 1 ∧ v = .ref b) := fun {i v} e => by
      match i, e with
      | 0, e => cases e; exact .inl ⟨rfl, rfl⟩
      | 1, e => cases e; exact .inr ⟨rfl, rfl⟩
      | n + 2, e => simp at e
    rcases two hi with ⟨rfl, rfl⟩ | ⟨rfl, rfl⟩ <;> rcases two hj with ⟨rfl, rfl⟩ | ⟨rfl, rfl⟩
    · exact HT.lt_tupInts ka ka hx hx ina (by rw [← lexLt_eq]; exact q)
    · exact HT.lt_tupInts ka kb hx hy ina (by rw [← lexLt_eq]; exact q)
    · exact HT.lt_tupInts kb ka hy hx ina (by rw [← lexLt_eq]; exact q)
    · exact HT.lt_tupInts kb kb hy hy ina (by rw [← lexLt_eq]; exact q)
  · obtain ⟨h', tk, rfl, hk'⟩ := PySem.W.moved_old (s := { s with heap := s.heap.push { cls := .type "tuple", data := .seq #[.ref a, .ref b] } }) e rfl m
    have hv : v = if lexLt ms ns then .ref b else .ref a := by
      cases hc : lexLt ms ns with
      | true =>
        have e1 : argBest (fun i j => match i, j with
          | 1, 0 => lexLt ms ns
          | 0, 1 => lexLt ns ms
          | 1, 1 => lexLt ms ms
          | _, _ => lexLt ns ns) (#[Value.ref a, Value.ref b].size - 1) = 1 := by simp [argBest, hc]
        rw [e1] at hP
        exact (Option.some.inj hP).symm
      | false =>
        have e1 : argBest (fun i j => match i, j with
          | 1, 0 => lexLt ms ns
          | 0, 1 => lexLt ns ms
          | 1, 1 => lexLt ms ms
          | _, _ => lexLt ns ns) (#[Value.ref a, Value.ref b].size - 1) = 0 := by simp [argBest, hc]
        rw [e1] at hP
        exact (Option.some.inj hP).symm
    rw [hv]
    exact h h' tk fun c o e => hk' c o (Heap.get?_push_of_some _ e)
end
section
variable {X : Cx}
theorem three_vals {x y z : V} {us : List Value} (r : Vals [x, y, z] us) : ∃ u v t, us = [u, v, t] ∧ RelV x u ∧ RelV y v ∧ RelV z t := by
  cases r with
  | cons h1 r =>
    obtain ⟨u, v, rfl, h2, h3⟩ := vals2 r
    exact ⟨_, u, v, rfl, h1, h2, h3⟩
theorem call_min3 (hc : X.calm = true) : CallR X (.builtin "min") (fun xs H Q => ∃ i j k, xs = [.int i, .int j, .int k] ∧ Q (.int (min (min i j) k)) H) := by
  intro pins s σ H xs us Q I r h
  obtain ⟨i, j, k, rfl, q⟩ := h
  obtain ⟨u, v, t, rfl, ⟨t1, rfl⟩, ⟨t2, rfl⟩, ⟨t3, rfl⟩⟩ := three_vals r
  refine min_three_ints (I.ok.hd hc) fun h' tk kp => ⟨_, H, I.kept kp, ?_, q⟩
  by_cases h1 : j < i
  · rw [if_pos h1]
    by_cases h2 : k < j
    · rw [if_pos h2, show min (min i j) k = k by omega]; exact ⟨_, rfl⟩
    · rw [if_neg h2, show min (min i j) k = j by omega]; exact ⟨_, rfl⟩
  · rw [if_neg h1]
    by_cases h2 : k < i
    · rw [if_pos h2, show min (min i j) k = k by omega]; exact ⟨_, rfl⟩
    · rw [if_neg h2, show min (min i j) k = i by omega]; exact ⟨_, rfl⟩
theorem call_max3 (hc : X.calm = true) : CallR X (.builtin "max") (fun xs H Q => ∃ i j k, xs = [.int i, .int j, .int k] ∧ Q (.int (max (max i j) k)) H) := by
  intro pins s σ H xs us Q I r h
  obtain ⟨i, j, k, rfl, q⟩ := h
  obtain ⟨u, v, t, rfl, ⟨t1, rfl⟩, ⟨t2, rfl⟩, ⟨t3, rfl⟩⟩ := three_vals r
  refine max_three_ints (I.ok.hd hc) fun h' tk kp => ⟨_, H, I.kept kp, ?_, q⟩
  by_cases h1 : j > i
  · rw [if_pos h1]
    by_cases h2 : k > j
    · rw [if_pos h2, show max (max i j) k = k by omega]; exact ⟨_, rfl⟩
    · rw [if_neg h2, show max (max i j) k = j by omega]; exact ⟨_, rfl⟩
  · rw [if_neg h1]
    by_cases h2 : k > i
    · rw [if_pos h2, show max (max i j) k = k by omega]; exact ⟨_, rfl⟩
    · rw [if_neg h2, show max (max i j) k = i by omega]; exact ⟨_, rfl⟩
/-- min of two tuples of numbers -/
def rMinT (K : PySem.W.Frag) : List V → Hp → VK → Prop := fun xs H Q => ∃ (a b : Addr) (ns ms : List Int), xs = [.ref a, .ref b] ∧ SqT K H a (ns.map V.int) ∧ SqT K H b (ms.map V.int) ∧ Q (.ref (if lexLt ms ns then b else a)) H
theorem call_minT (hc : X.calm = true) (hu : X.A.units + 1 < cLine) : CallR X (.builtin "min") (rMinT X.K) := by
  intro pins s σ H xs us Q I r h
  obtain ⟨a, b, ns, ms, rfl, ha, hb, q⟩ := h
  obtain ⟨u, v, rfl, r1, r2⟩ := vals2 r
  cases r1
  cases r2
  obtain ⟨its, r1, p1, _⟩ := I.tuple ha
  obtain ⟨its2, r2, p2, _⟩ := I.tuple hb
  have i1 : IntsAre its.toArray.toList ns := intsAre_of r1
  have i2 : IntsAre its2.toArray.toList ms := intsAre_of r2
  refine min_two_tups (I.ok.hd hc) p1 p2 i1 i2 hu fun h' tk kp => ⟨_, H, I.kept kp, ?_, q⟩
  cases lexLt ms ns <;> rfl
/-- min of a list of alike things -/
def rMinTL (K : PySem.W.Frag) : List V → Hp → VK → Prop := fun xs H Q => ∃ (a : Addr) (vs : List V) (ps : List PyData) (v : V), xs = [.ref a] ∧ SqL K H a vs ∧ DpAll K H vs ps ∧ PySem.W.AlikeAll ps ∧ 0 < ps.length ∧ PyData.depthAll ps ≤ 32 ∧
  vs[argBest (fun i j => PySem.W.dataLt (ps.getD i .none) (ps.getD j .none)) (ps.length - 1)]? = some v ∧ Q v H
theorem call_minTL (hc : X.calm = true) (hu : X.A.units + 40 < cLine) : CallR X (.builtin "min") (rMinTL X.K) := by
  intro pins s σ H xs us Q I r h
  obtain ⟨a, vs, ps, v, rfl, hs, hd, ha, h0, hdep, hv, q⟩ := h
  obtain ⟨its, rv, hl, _⟩ := I.list hs
  rw [Vals.ref1 r]
  obtain ⟨as, hr⟩ := Dp.readsAll I ps vs its hd rv
  have hn : its.toArray.size = ps.length := PySem.W.readsAll_len (vs := its.toArray) (by simpa using hr)
  refine call_min_walkH (PySem.W.iter_listW (A := X.A.in1) (I.ok.hd hc) hl.isList fun s₂ e W st hfp hw hk => ?_)
  refine ⟨_, _, _, _, _, _, _, s.heap, _, rfl, W, st, hfp, by omega, hw, hk, PySem.W.cmpIn_lt (A := X.A.in1) (by simpa using hr) ha (by show X.A.units + 1 + _ < _; omega), fun v' s' hP m => ?_⟩
  obtain ⟨h', tk, rfl, hk'⟩ := PySem.W.moved_old e rfl m
  refine ⟨v, H, I.kept hk', ?_, q⟩
  rw [hn] at hP
  have hP' : its[argBest (fun i j => PySem.W.dataLt (ps.getD i .none) (ps.getD j .none)) (ps.length - 1)]? = some v' := by simpa using hP
  obtain ⟨u, hu1, hu2⟩ := rv.get hv
  rw [hP'] at hu1
  cases hu1
  exact hu2
end
end PV
set_option maxHeartbeats 4000000
/-! Expressions: built-ins, isinstance, methods that change; names given values; what a loop walks. -/
namespace PV
open PySem PySem.Spec PyProof.Rows L2
/-! ### built-ins -/
theorem mxL_mem : ∀ (r : List Int) (x : Int), mxL x r ∈ x :: r ∧ ∀ y ∈ x :: r, y ≤ mxL x r
  | [], x => ⟨List.mem_cons_self, fun y hy => by
    have e : y = x := by simpa using hy
    rw [e]; exact Int.le_refl _⟩
  | z :: r, x => by
    unfold mxL
    by_cases h : z > x
    · rw [if_pos h]
      obtain ⟨h1, h2⟩ := mxL_mem r z
      refine ⟨List.mem_cons_of_mem _ h1, fun y hy => ?_⟩
      rcases List.mem_cons.mp hy with e | hy
      · have := h2 z List.mem_cons_self
        omega
      · exact h2 y hy
    · rw [if_neg h]
      obtain ⟨h1, h2⟩ := mxL_mem r x
      refine ⟨?_, fun y hy => ?_⟩
      · rcases List.mem_cons.mp h1 with e | h1
        · rw [e]; exact List.mem_cons_self
        · exact List.mem_cons_of_mem _ (List.mem_cons_of_mem _ h1)
      · rcases List.mem_cons.mp hy with e | hy
        · rw [e]; exact h2 x List.mem_cons_self
        · rcases List.mem_cons.mp hy with e | hy
          · have := h2 x List.mem_cons_self
            omega
          · exact h2 y (List.mem_cons_of_mem _ hy)
theorem mnL_mem : ∀ (r : List Int) (x : Int), mnL x r ∈ x :: r ∧ ∀ y ∈ x :: r, mnL x r ≤ y
  | [], x => ⟨List.mem_cons_self, fun y hy => by
    have e : y = x := by simpa using hy
    rw [e]; exact Int.le_refl _⟩
  | z :: r, x => by
    unfold mnL
    by_cases h : z < x
    · rw [if_pos h]
      obtain ⟨h1, h2⟩ := mnL_mem r z
      refine ⟨List.mem_cons_of_mem _ h1, fun y hy => ?_⟩
      rcases List.mem_cons.mp hy with e | hy
      · have := h2 z List.mem_cons_self
        omega
      · exact h2 y hy
    · rw [if_neg h]
      obtain ⟨h1, h2⟩ := mnL_mem r x
      refine ⟨?_, fun y hy => ?_⟩
      · rcases List.mem_cons.mp h1 with e | h1
        · rw [e]; exact List.mem_cons_self
        · exact List.mem_cons_of_mem _ (List.mem_cons_of_mem _ h1)
      · rcases List.mem_cons.mp hy with e | hy
        · rw [e]; exact h2 x List.mem_cons_self
        · rcases List.mem_cons.mp hy with e | hy
          · have := h2 x List.mem_cons_self
            omega
          · exact h2 y (List.mem_cons_of_mem _ hy)
/-- what a built-in asks -/
def bltR (K : PySem.W.Frag) : Blt → List V → Hp → VK → Prop
  | .len => fun xs H Q => (∃ p ys, xs = [.ref p] ∧ (SqL K H p ys ∨ SqT K H p ys) ∧ Q (.int ys.length) H) ∨ ∃ z, xs = [.str z] ∧ z.length ≤ sizeLine ∧ Q (.int z.length) H
  | .str => fun xs H Q => ∃ i, xs = [.int i] ∧ i.natAbs.log2 < 1920 ∧ Q (.str (toString i)) H
  | .abs => fun xs H Q => ∃ i, xs = [.int i] ∧ Q (.int (if i < 0 then -i else i)) H
  | .max => fun xs H Q => (∃ i j, xs = [.int i, .int j] ∧ Q (.int (if j > i then j else i)) H) ∨ rMax K xs H Q ∨ ∃ i j k, xs = [.int i, .int j, .int k] ∧ Q (.int (max (max i j) k)) H
  | .min => fun xs H Q => (∃ i j, xs = [.int i, .int j] ∧ Q (.int (if j < i then j else i)) H) ∨ rMin K xs H Q ∨ rMinT K xs H Q ∨ (∃ i j k, xs = [.int i, .int j, .int k] ∧ Q (.int (min (min i j) k)) H) ∨ rMinTL K xs H Q
  | .sum => rSum K
  | .list => fun xs H Q => ∃ p ys, xs = [.ref p] ∧ (SqL K H p ys ∨ SqT K H p ys) ∧ ∀ l, H l = none → Q (.ref l) (upd H l (.lst ys))
  | .int => fun xs H Q => ((∃ i, xs = [.int i] ∧ Q (.int i) H) ∨ ∃ k, xs = [.bl k] ∧ Q (.int (if k then 1 else 0)) H) ∨ ∃ a n, xs = [.str a] ∧ PySem.intText? a = some n ∧ a.length ≤ 640 ∧ Q (.int n) H
  | .all => rAll K
  | .sorted => fun xs H Q => ∃ (a : Addr) (kvs : List (Key × V)) (ks : List Int), xs = [.ref a] ∧ Rd H a (.dK kvs) ∧ kvs.map (·.1) = ks.map Sum.inl ∧ ks.length < 64 ∧
    ∀ (ys : List Int) (p : Addr), ys.Perm ks → ys.Pairwise (· ≤ ·) → H p = none → Q (.ref p) (upd H p (.lst (ys.map V.int)))
  | _ => fun _ _ _ => False
theorem insI_perm (x : Int) : ∀ l : List Int, (insI x l).Perm (x :: l)
  | [] => List.Perm.refl _
  | y :: r => by
    unfold insI
    split
    · exact List.Perm.refl _
    · exact ((insI_perm x r).cons y).trans (List.Perm.swap x y r)
theorem srtI_perm : ∀ l : List Int, (srtI l).Perm l
  | [] => List.Perm.refl _
  | x :: r => (insI_perm x (srtI r)).trans ((srtI_perm r).cons x)
theorem insI_sorted (x : Int) : ∀ l : List Int, l.Pairwise (· ≤ ·) → (insI x l).Pairwise (· ≤ ·)
  | [], _ => List.pairwise_singleton _ _
  | y :: r, h => by
    unfold insI
    split
    · rename_i hxy
      refine List.pairwise_cons.mpr ⟨fun z hz => ?_, h⟩
      rcases List.mem_cons.mp hz with rfl | hz
      · exact hxy
      · exact Int.le_trans hxy ((List.pairwise_cons.mp h).1 z hz)
    · rename_i hxy
      refine List.pairwise_cons.mpr ⟨fun z hz => ?_, insI_sorted x r (List.pairwise_cons.mp h).2⟩
      rcases List.mem_cons.mp ((insI_perm x r).mem_iff.mp hz) with rfl | hz
      · omega
      · exact (List.pairwise_cons.mp h).1 z hz
theorem srtI_sorted : ∀ l : List Int, (srtI l).Pairwise (· ≤ ·)
  | [] => List.Pairwise.nil
  | x :: r => insI_sorted x _ (srtI_sorted r)
theorem sorted_unique {l l' : List Int} (h : l.Perm l') (s1 : l.Pairwise (· ≤ ·)) (s2 : l'.Pairwise (· ≤ ·)) : l = l' := h.eq_of_pairwise (fun a b _ _ h1 h2 => Int.le_antisymm h1 h2) s1 s2
theorem bls_of {K : PySem.W.Frag} {w : Wr} : ∀ {ds : List D} {bs : List Bool} {vs : List V}, blsOf ds = some bs → Reps K w ds vs → vs = bs.map V.bl
  | [], ns, vs, e, h => by
    cases e
    unfold Reps at h
    exact h
  | d :: ds, ns, vs, e, h => by
    unfold Reps at h
    obtain ⟨v, r, rfl, h1, h2⟩ := h
    cases d with
    | bl i =>
      unfold blsOf at e
      split at e
      · rename_i is e'
        cases e
        unfold Rep at h1
        rw [h1, bls_of e' h2]
        rfl
      · cases e
    | _ => cases e
theorem keys_of : ∀ {kvs : List (Key × V)} {ks : List Int}, keysOf kvs = some ks → kvs.map (·.1) = ks.map Sum.inl
  | [], ks, e => by cases e; rfl
  | (.inl i, v) :: r, ks, e => by
    unfold keysOf at e
    split at e
    · rename_i is e'
      cases e
      rw [List.map_cons, List.map_cons, keys_of e']
    · cases e
  | (.inr i, v) :: r, ks, e => by cases e
section
variable {K : PySem.W.Frag} {cls : Str → Value} {B : Hp} {L : Nat → Option Addr} {w w' : Wr} {s s' : Sx} {σ : L2.St} {H H' : Hp}
theorem one_rd {d : D} {vs : List V} (hl : [d].length = vs.length) (hd : ∀ (i : Nat) d' v, [d][i]? = some d' → vs[i]? = some v → RdOk K w H d' v) : ∃ v, vs = [v] ∧ RdOk K w H d v := by
  match vs, hl with
  | [v], _ => exact ⟨v, rfl, hd 0 d v rfl rfl⟩
theorem three_rd {d e f : D} {vs : List V} (hl : [d, e, f].length = vs.length) (hd : ∀ (i : Nat) d' v, [d, e, f][i]? = some d' → vs[i]? = some v → RdOk K w H d' v) : ∃ v u t, vs = [v, u, t] ∧ RdOk K w H d v ∧ RdOk K w H e u ∧ RdOk K w H f t := by
  match vs, hl with
  | [v, u, t], _ => exact ⟨v, u, t, rfl, hd 0 d v rfl rfl, hd 1 e u rfl rfl, hd 2 f t rfl rfl⟩
theorem tup_rep {a : Addr} {ds : List D} {v : V} (h : RdOk K w H (.tup ds) v) : Rep K w (.tup ds) v := by
  rcases h with h | ⟨a, _, h⟩
  · exact h
  · exact h.elim
theorem two_rd {d e : D} {vs : List V} (hl : [d, e].length = vs.length) (hd : ∀ (i : Nat) d' v, [d, e][i]? = some d' → vs[i]? = some v → RdOk K w H d' v) : ∃ v u, vs = [v, u] ∧ RdOk K w H d v ∧ RdOk K w H e u := by
  match vs, hl with
  | [v, u], _ => exact ⟨v, u, rfl, hd 0 d v rfl rfl, hd 1 e u rfl rfl⟩
theorem ints_reps : ∀ ns : List Int, Reps K w (ns.map D.int) (ns.map V.int)
  | [] => Reps.nil
  | n :: ns => Reps.cons rep_int (ints_reps ns)
theorem blt_ok {f : Blt} (no : f ≠ .lrng) {ds : List D} {r : R} {vs : List V} {Q : VK} (R : Rel K B L w s σ H) (hl : ds.length = vs.length) (hd : ∀ (i : Nat) d v, ds[i]? = some d → vs[i]? = some v → RdOk K w H d v) (e : bltD f ds = some r)
    (k : ∀ w' v H', Ext B w w' → Rel K B L w' s σ H' → ResOk K B w' s σ H' r v → Q v H') : bltR K f vs H Q := by
  unfold bltD at e
  split at e
  · cases e
    obtain ⟨v, rfl, h⟩ := one_rd hl hd
    obtain ⟨a, us, rfl, h1, h2⟩ := h.lst R.gh
    refine .inl ⟨a, us, rfl, .inl (SqL.of h1), ?_⟩
    rw [h2.len]
    exact k w _ H Ext.refl R (res_sh rep_int)
  · cases e
    obtain ⟨v, rfl, h⟩ := one_rd hl hd
    obtain ⟨a, us, rfl, h1, h2⟩ := h.fl R.gh
    refine .inl ⟨a, us, rfl, .inl h1, ?_⟩
    rw [h2.len]
    exact k w _ H Ext.refl R (res_sh rep_int)
  · cases e
    obtain ⟨v, rfl, h⟩ := one_rd hl hd
    obtain ⟨a, us, rfl, h1, h2⟩ := h.tup R.gh
    refine .inl ⟨a, us, rfl, .inr h1, ?_⟩
    rw [h2.len]
    exact k w _ H Ext.refl R (res_sh rep_int)
  · split at e
    · rename_i hz
      cases e
      obtain ⟨v, rfl, h⟩ := one_rd hl hd
      rw [h.str]
      exact .inr ⟨_, rfl, by rw [sizeLine_eq]; exact hz, k w _ H Ext.refl R (res_sh rep_int)⟩
    · cases e
  · split at e
    · rename_i hz
      cases e
      obtain ⟨v, rfl, h⟩ := one_rd hl hd
      rw [h.int]
      exact ⟨_, rfl, hz, k w _ H Ext.refl R (res_sh rep_str)⟩
    · cases e
  · split at e
    · rename_i hz
      split at e
      · rename_i n hn
        cases e
        obtain ⟨v, rfl, h⟩ := one_rd hl hd
        rw [h.str]
        exact .inr ⟨_, _, rfl, hn, hz, k w _ H Ext.refl R (res_sh rep_int)⟩
      · cases e
    · cases e
  · cases e
    obtain ⟨v, rfl, h⟩ := one_rd hl hd
    rw [h.int]
    exact ⟨_, rfl, k w _ H Ext.refl R (res_sh rep_int)⟩
  · cases e
    obtain ⟨v, u, rfl, h, h'⟩ := two_rd hl hd
    rw [h.int, h'.int]
    exact .inl ⟨_, _, rfl, k w _ H Ext.refl R (res_sh rep_int)⟩
  · cases e
    obtain ⟨v, u, rfl, h, h'⟩ := two_rd hl hd
    rw [h.int, h'.int]
    exact .inl ⟨_, _, rfl, k w _ H Ext.refl R (res_sh rep_int)⟩
  · split at e
    · rename_i x r' e1
      cases e
      obtain ⟨v, rfl, h⟩ := one_rd hl hd
      obtain ⟨a, us, rfl, h1, h2⟩ := h.lst R.gh
      have := ints_of e1 h2
      subst this
      refine .inr (.inl ⟨a, x :: r', rfl, SqL.of h1, by simp, fun m hm hy => ?_⟩)
      obtain ⟨g1, g2⟩ := mxL_mem r' x
      have e2 : m = mxL x r' := Int.le_antisymm (g2 m hm) (hy _ g1)
      rw [e2]
      exact k w _ H Ext.refl R (res_sh rep_int)
    · cases e
  · split at e
    · rename_i x r' e1
      cases e
      obtain ⟨v, rfl, h⟩ := one_rd hl hd
      obtain ⟨a, us, rfl, h1, h2⟩ := h.lst R.gh
      have := ints_of e1 h2
      subst this
      refine .inr (.inl ⟨a, x :: r', rfl, SqL.of h1, by simp, fun m hm hy => ?_⟩)
      obtain ⟨g1, g2⟩ := mnL_mem r' x
      have e2 : m = mnL x r' := Int.le_antisymm (hy _ g1) (g2 m hm)
      rw [e2]
      exact k w _ H Ext.refl R (res_sh rep_int)
    · cases e
    · unfold minTD at e
      split at e
      · rename_i ps hp
        split at e
        · rename_i hz
          obtain ⟨h0, hal, hnn, hdp⟩ := hz
          obtain ⟨v, rfl, h⟩ := one_rd hl hd
          obtain ⟨a, us, rfl, h1, h2⟩ := h.lst R.gh
          cases hq : (_ : List D)[argBest (fun i j => PySem.W.dataLt (ps.getD i .none) (ps.getD j .none)) (ps.length - 1)]? with
          | none => rw [hq] at e; cases e
          | some d =>
            rw [hq] at e
            cases e
            obtain ⟨v, hv, rp⟩ := h2.get hq
            refine .inr (.inr (.inr (.inr ⟨a, us, ps, v, rfl, SqL.of h1, dp_reps R.gh hp h2, ⟨fun x hx y hy => ?_, fun x hx => ?_⟩, h0, hdp, hv, k w _ H Ext.refl R (res_sh rp)⟩)))
            · exact List.all_eq_true.mp (List.all_eq_true.mp hal x hx) y hy
            · intro z
              have := List.all_eq_true.mp hnn x hx
              rw [z] at this
              cases this
        · cases e
      · cases e
  · split at e
    · rename_i ns e1
      cases e
      obtain ⟨v, rfl, h⟩ := one_rd hl hd
      obtain ⟨a, us, rfl, h1, h2⟩ := h.lst R.gh
      have := ints_of e1 h2
      subst this
      exact ⟨a, ns, rfl, SqL.of h1, k w _ H Ext.refl R (res_sh rep_int)⟩
    · cases e
  · cases e
    obtain ⟨v, rfl, h⟩ := one_rd hl hd
    obtain ⟨a, us, rfl, h1, h2⟩ := h.lst R.gh
    refine ⟨a, us, rfl, .inl (SqL.of h1), fun l hl' => ?_⟩
    obtain ⟨R', o'⟩ := R.newOwn h2 hl'
    exact k w _ _ Ext.refl R' o'
  · cases e
    obtain ⟨v, rfl, h⟩ := one_rd hl hd
    obtain ⟨a, us, rfl, h1, h2⟩ := h.fl R.gh
    refine ⟨a, us, rfl, .inl h1, fun l hl' => ?_⟩
    obtain ⟨R', o'⟩ := R.newOwn h2 hl'
    exact k w _ _ Ext.refl R' o'
  · cases e
    obtain ⟨v, rfl, h⟩ := one_rd hl hd
    obtain ⟨a, us, rfl, h1, h2⟩ := h.tup R.gh
    refine ⟨a, us, rfl, .inr h1, fun l hl' => ?_⟩
    obtain ⟨R', o'⟩ := R.newOwn h2 hl'
    exact k w _ _ Ext.refl R' o'
  · cases e
    obtain ⟨v, rfl, h⟩ := one_rd hl hd
    rw [h.int]
    exact .inl (.inl ⟨_, rfl, k w _ H Ext.refl R (res_sh rep_int)⟩)
  · cases e
    obtain ⟨v, rfl, h⟩ := one_rd hl hd
    rw [h.bl]
    exact .inl (.inr ⟨_, rfl, k w _ H Ext.refl R (res_sh rep_int)⟩)
  · split at e
    · rename_i bs e1
      cases e
      obtain ⟨v, rfl, h⟩ := one_rd hl hd
      obtain ⟨a, us, rfl, h1, h2⟩ := h.lst R.gh
      have := bls_of e1 h2
      subst this
      exact ⟨a, bs, rfl, SqL.of h1, k w _ H Ext.refl R (res_sh rep_bl)⟩
    · cases e
  · split at e
    · rename_i xs ys ns ms e1 e2
      cases e
      obtain ⟨v, u, rfl, h, h'⟩ := two_rd hl hd
      obtain ⟨a, vs, rfl, s1, r1⟩ := h.tup R.gh
      obtain ⟨b, us, rfl, s2, r2⟩ := h'.tup R.gh
      have := ints_of e1 r1
      subst this
      have := ints_of e2 r2
      subst this
      refine .inr (.inr (.inl ⟨a, b, ns, ms, rfl, s1, s2, k w _ H Ext.refl R (res_sh ?_)⟩))
      cases lexLt ms ns with
      | true => exact tup_rep (a := a) h'
      | false => exact tup_rep (a := a) h
    · cases e
  · cases e
    obtain ⟨v, u, t, rfl, h, h', h''⟩ := three_rd hl hd
    rw [h.int, h'.int, h''.int]
    exact .inr (.inr (.inr (.inl ⟨_, _, _, rfl, k w _ H Ext.refl R (res_sh rep_int)⟩)))
  · cases e
    obtain ⟨v, u, t, rfl, h, h', h''⟩ := three_rd hl hd
    rw [h.int, h'.int, h''.int]
    exact .inr (.inr ⟨_, _, _, rfl, k w _ H Ext.refl R (res_sh rep_int)⟩)
  · split at e
    · rename_i ks e1
      split at e
      · rename_i h64
        cases e
        obtain ⟨v, rfl, h⟩ := one_rd hl hd
        obtain ⟨a, rfl, h1⟩ := h.nodct
        refine ⟨a, _, ks, rfl, .inl h1, keys_of e1, h64, fun ys p hp hs hn => ?_⟩
        rw [sorted_unique (hp.trans (srtI_perm ks).symm) hs (srtI_sorted ks)]
        obtain ⟨R', o'⟩ := R.newOwn (ds := (srtI ks).map D.int) (vs := (srtI ks).map V.int) (ints_reps _) hn
        exact k w _ _ Ext.refl R' o'
      · cases e
    · cases e
  · exact (no rfl).elim
  · cases e
/-! ### isinstance -/
def tyN : Ty → String
  | .int => "int" | .bool => "bool" | .str => "str" | .list => "list" | .tuple => "tuple"
def tyD : D → String
  | .non => "NoneType" | .bl _ => "bool" | .int _ => "int" | .str _ => "str" | .lst _ => "list" | .fl _ => "list" | .tup _ => "tuple" | .dct _ => "dict" | .cel _ => "list" | .fn _ => "function" | .err _ => "ValueError"
theorem kit_tab : ∀ t : Ty, kitB "NoneType" (tyN t) = some false ∧ kitB "bool" (tyN t) = some (t == .bool || t == .int) ∧ kitB "int" (tyN t) = some (t == .int) ∧ kitB "str" (tyN t) = some (t == .str) ∧ kitB "list" (tyN t) = some (t == .list) ∧ kitB "tuple" (tyN t) = some (t == .tuple) := by
  intro t
  cases t <;> decide +kernel
theorem kit_D {d : D} {ts : List Ty} {b : Bool} (e : isD d ts = some b) : b = ts.any (isTy d) ∧ ∀ t : Ty, PySem.W.kitOne K (.type (tyD d)) (.type (tyN t)) = some (isTy d t) := by
  unfold isD at e
  split at e
  · cases e
  · cases e
  · cases e
  · cases e
  · rename_i h1 h2 h3 h4
    cases e
    refine ⟨rfl, fun t => ?_⟩
    obtain ⟨k1, k2, k3, k4, k5, k6⟩ := kit_tab t
    cases d with
    | non => exact kit_ty (k1.trans (by cases t <;> rfl))
    | bl b => exact kit_ty (k2.trans (by cases t <;> rfl))
    | int b => exact kit_ty (k3.trans (by cases t <;> rfl))
    | str b => exact kit_ty (k4.trans (by cases t <;> rfl))
    | lst b => exact kit_ty (k5.trans (by cases t <;> rfl))
    | fl b => exact kit_ty (k5.trans (by cases t <;> rfl))
    | tup b => exact kit_ty (k6.trans (by cases t <;> rfl))
    | dct k => exact absurd rfl (h1 k)
    | cel n => exact absurd rfl (h2 n)
    | fn n => exact absurd rfl (h3 n)
    | err n => exact absurd rfl (h4 n)
theorem kit_any {d : D} (h : ∀ t : Ty, PySem.W.kitOne K (.type (tyD d)) (.type (tyN t)) = some (isTy d t)) : ∀ ts : List Ty, PySem.W.kitAny K (.type (tyD d)) (ts.map fun t => Value.type (tyN t)) = some (ts.any (isTy d))
  | [] => kitAny_nil
  | t :: ts => by
    rw [List.map_cons, List.any_cons]
    refine kitAny_cons (h t) (fun e => ?_) (fun e => by rw [e]; rfl)
    rw [e, Bool.false_or]
    exact kit_any h ts
theorem tyX_rd (g : ∀ a o, w.G a = some o → H a = some o) {d : D} {v : V} {ts : List Ty} {b : Bool} (e : isD d ts = some b) (h : RdOk K w H d v) : TyX K H v (.type (tyD d)) := by
  cases d with
  | non => rw [h.non]; exact .base .non
  | bl b => rw [h.bl]; exact .base (.bl b)
  | int b => rw [h.int]; exact .base (.int b)
  | str b => rw [h.str]; exact .base (.str b)
  | lst ds =>
    obtain ⟨a, vs, rfl, h1, _⟩ := h.lst g
    exact .base (.lst h1)
  | fl ds =>
    obtain ⟨a, vs, rfl, h1, _⟩ := h.fl g
    rcases h1 with (h1 | ⟨o, h1⟩) | ⟨o, its, n, h1, h2, _⟩
    · exact .base (.lst h1)
    · exact .base (.frz h1)
    · exact .kList h1 h2
  | tup ds =>
    obtain ⟨a, vs, rfl, h1, _⟩ := h.tup g
    rcases h1 with (h1 | ⟨o, h1⟩) | ⟨o, its, n, h1, h2, _⟩
    · exact .base (.tup h1)
    · exact .fTuple h1
    · exact .kTuple h1 h2
  | dct _ => cases e
  | cel _ => cases e
  | fn _ => cases e
  | err _ => cases e
/-! ### names given values -/
theorem asgD_some {i : Nat} {k : Kd} {d : D} {s1 : Sx} (e : asgD i k d s = some s1) : locked s.e[i]? = false ∧ s1 = { s with e := s.e.set i (some ⟨k, d⟩) } := by
  unfold asgD at e
  split at e
  · cases e
  · rename_i h
    cases e
    exact ⟨by simpa using h, rfl⟩
theorem not_lk {i : Nat} (h : locked s.e[i]? = false) : i < s.e.length ∧ ∀ d, s.e[i]? ≠ some (some ⟨.lk, d⟩) := by
  refine ⟨?_, fun d e => by rw [e] at h; cases h⟩
  cases e : s.e[i]? with
  | none => rw [e] at h; cases h
  | some x => exact (List.getElem?_eq_some_iff.mp e).1
/-- a slot that is not locked takes another thing -/
theorem Rel.put (r : Rel K B L w s σ H) {i : Nat} {x : Option Sl} {v : V} (hl : locked s.e[i]? = false)
    (hx : ∀ k d, x = some ⟨k, d⟩ → (k = .sh ∧ Rep K w d v) ∨ (k = .ow ∧ ResOk K B w s σ H (.fr d) v)) : Rel K B L w { s with e := s.e.set i x } (σ.set i (some v)) H := by
  obtain ⟨hi, hn⟩ := not_lk hl
  have hi' : i < σ.length := by rw [← r.len]; exact hi
  have self : ∀ y, (s.e.set i x)[i]? = some y → y = x := fun y h => by rw [List.getElem?_set_self hi] at h; exact (Option.some.inj h).symm
  have other : ∀ j y, j ≠ i → (s.e.set i x)[j]? = some y → s.e[j]? = some y := fun j y h e => by rw [List.getElem?_set_ne (Ne.symm h)] at e; exact e
  have so : ∀ j, j ≠ i → (σ.set i (some v))[j]? = σ[j]? := fun j h => List.getElem?_set_ne (Ne.symm h)
  have ss : (σ.set i (some v))[i]? = some (some v) := List.getElem?_set_self hi'
  refine ⟨r.gh, r.bh, by simpa using r.len, fun j d h => ?_, fun j d h => ?_, fun j d h => ?_, fun j a h => ?_, fun j l d d' a h1 h2 q1 q2 => ?_, r.cn, r.cl, r.cf, r.clen⟩
  · by_cases z : j = i
    · subst z
      rcases hx _ _ (self _ h).symm with ⟨_, h1⟩ | ⟨h1, _⟩
      · exact ⟨v, ss, h1⟩
      · cases h1
    · rw [so j z]; exact r.sh j d (other j _ z h)
  · by_cases z : j = i
    · subst z
      rcases hx _ _ (self _ h).symm with ⟨h1, _⟩ | ⟨_, a, rfl, h1, h2, h3, h4, _⟩
      · cases h1
      · exact ⟨a, ss, h1, h2, h3, h4⟩
    · rw [so j z]; exact r.ow j d (other j _ z h)
  · by_cases z : j = i
    · subst z
      rcases hx _ _ (self _ h).symm with ⟨h1, _⟩ | ⟨h1, _⟩ <;> cases h1
    · rw [so j z]; exact r.lk j d (other j _ z h)
  · obtain ⟨d, q⟩ := r.lk' j a h
    have z : j ≠ i := fun z => by subst z; exact hn d q
    exact ⟨d, by show (s.e.set i x)[j]? = _; rw [List.getElem?_set_ne (Ne.symm z)]; exact q⟩
  · by_cases z : j = i
    · by_cases y : l = i
      · rw [z, y]
      · subst z
        rw [ss] at q1
        cases q1
        rw [so l y] at q2
        rcases hx _ _ (self _ h1).symm with ⟨h1, _⟩ | ⟨_, a', e, _, _, _, _, h5⟩
        · cases h1
        · cases e
          exact absurd q2 (h5 l d' (other l _ y h2))
    · by_cases y : l = i
      · subst y
        rw [ss] at q2
        cases q2
        rw [so j z] at q1
        rcases hx _ _ (self _ h2).symm with ⟨h1, _⟩ | ⟨_, a', e, _, _, _, _, h5⟩
        · cases h1
        · cases e
          exact absurd q1 (h5 j d (other j _ z h1))
      · rw [so j z] at q1
        rw [so l y] at q2
        exact r.inj j l d d' a (other j _ z h1) (other l _ y h2) q1 q2
theorem Rel.asgS (r : Rel K B L w s σ H) {i : Nat} {d : D} {v : V} {s1 : Sx} (e : asgD i .sh d s = some s1) (h : Rep K w d v) : Rel K B L w s1 (σ.set i (some v)) H := by
  obtain ⟨hl, rfl⟩ := asgD_some e
  exact r.put hl fun k d' q => by cases q; exact .inl ⟨rfl, h⟩
theorem Rel.asgO (r : Rel K B L w s σ H) {i : Nat} {d : D} {v : V} {s1 : Sx} (e : asgD i .ow d s = some s1) (h : ResOk K B w s σ H (.fr d) v) : Rel K B L w s1 (σ.set i (some v)) H := by
  obtain ⟨hl, rfl⟩ := asgD_some e
  exact r.put hl fun k d' q => by cases q; exact .inr ⟨rfl, h⟩
end
end PV
set_option maxHeartbeats 4000000
/-! Built-ins, methods, what a loop walks. -/
namespace PV
open PySem PySem.Spec PyProof.Rows L2
section
variable {X : Cx} {cls : Str → Value} {W : WX} {F : Cf} {pos p : Pos} {a b : Expr} {ca cb : Ex} {es : List Expr} {cs : Exs}
theorem blt_rd {f : Blt} (no : f ≠ .lrng) {σ : L2.St} {H : Hp} {Q : VK} (h : tE X.K cls W F (.blt f cs) σ H Q) : tCB (bltR X.K f) (tAs X.K cls W F cs) σ H Q := by
  obtain ⟨B, L, w, s, o, hR, e, k, hx⟩ := h
  rw [evE] at e
  refine tM_bd hR e hx fun rs s1 w1 vs H1 x1 R1 o1 e1 hx1 => ?_
  obtain ⟨ds, e2, hl, hd⟩ := looks_bd R1 o1 e1
  obtain ⟨r, e3, rfl⟩ := op_some e2
  exact blt_ok no R1 hl hd e3 fun w' v H' ex R' res => k r s1 rfl w' v H' (x1.trans ex) R' res
theorem r_bltB {f : Blt} (no : f ≠ .lrng) {x : Str} {id : String} (hc : CallR X (.builtin id) (bltR X.K f)) (hg : Gl X x) (hm : X.mg x = none) (hv : bootBuiltins x = some (.builtin id)) (ha : PA X (a :: es) (tAs X.K cls W F cs)) (hn : x ≠ "__name__") (hdb : (x == ("__debug__" : Str)) = false)
    (he : starEach (a :: es) X.env = (false, eval a X.env) :: starEach es X.env) (hpl : (backTo pos (starEach es X.env)).any (·.1) = false) : PE X (.Call (.Name x p) (a :: es) [] pos) (tE X.K cls W F (.blt f cs)) :=
  PEm (pe_callB hc hg hm hv ha hn hdb he hpl) fun σ H Q h => blt_rd no h
theorem r_bltT {f : Blt} (no : f ≠ .lrng) {x : Str} {T : String} (hc : CallR X (.type T) (bltR X.K f)) (hg : Gl X x) (hm : X.mg x = none) (hv : bootBuiltins x = some (.type T)) (ha : PA X (a :: es) (tAs X.K cls W F cs)) (hn : x ≠ "__name__") (hdb : (x == ("__debug__" : Str)) = false)
    (he : starEach (a :: es) X.env = (false, eval a X.env) :: starEach es X.env) (hpl : (backTo pos (starEach es X.env)).any (·.1) = false) : PE X (.Call (.Name x p) (a :: es) [] pos) (tE X.K cls W F (.blt f cs)) :=
  PEm (pe_callTy hc hg hm hv ha hn hdb he hpl) fun σ H Q h => blt_rd no h
/-- the names of the built-ins -/
def bltN : Blt → Str
  | .len => "len" | .abs => "abs" | .min => "min" | .max => "max" | .sum => "sum" | .list => "list" | .int => "int" | .all => "all" | .str => "str" | .sorted => "sorted" | .lrng => "list"
theorem r_blt (f : Blt) (no : f ≠ .lrng) (hu : X.A.units + 40 < cLine) (hc : X.calm = true) (hg : Gl X (bltN f)) (hm : X.mg (bltN f) = none) (ha : PA X (a :: es) (tAs X.K cls W F cs))
    (he : starEach (a :: es) X.env = (false, eval a X.env) :: starEach es X.env) (hpl : (backTo pos (starEach es X.env)).any (·.1) = false) : PE X (.Call (.Name (bltN f) p) (a :: es) [] pos) (tE X.K cls W F (.blt f cs)) := by
  cases f with
  | len => exact r_bltB no (call_len_seq.or call_len_str) hg hm (by decide +kernel) ha (by decide +kernel) (by decide +kernel) he hpl
  | abs => exact r_bltB no call_abs hg hm (by decide +kernel) ha (by decide +kernel) (by decide +kernel) he hpl
  | min => exact r_bltB no ((call_min2 hc).or ((cr_min hc).or ((call_minT hc (by omega)).or ((call_min3 hc).or (call_minTL hc hu))))) hg hm (by decide +kernel) ha (by decide +kernel) (by decide +kernel) he hpl
  | max => exact r_bltB no ((call_max2 hc).or ((cr_max hc).or (call_max3 hc))) hg hm (by decide +kernel) ha (by decide +kernel) (by decide +kernel) he hpl
  | sum => exact r_bltB no (cr_sum hc) hg hm (by decide +kernel) ha (by decide +kernel) (by decide +kernel) he hpl
  | list => exact r_bltT no call_list_of hg hm (by decide +kernel) ha (by decide +kernel) (by decide +kernel) he hpl
  | int => exact r_bltT no (call_int1.or call_int_str) hg hm (by decide +kernel) ha (by decide +kernel) (by decide +kernel) he hpl
  | all => exact r_bltB no (cr_all hc) hg hm (by decide +kernel) ha (by decide +kernel) (by decide +kernel) he hpl
  | str => exact r_bltT no call_str_int hg hm (by decide +kernel) ha (by decide +kernel) (by decide +kernel) he hpl
  | sorted => exact r_bltB no (call_sortedDI hc) hg hm (by decide +kernel) ha (by decide +kernel) (by decide +kernel) he hpl
  | lrng => exact (no rfl).elim
/-- a type by its name -/
def tyS : Ty → Str
  | .int => "int" | .bool => "bool" | .str => "str" | .list => "list" | .tuple => "tuple"
theorem pe_ty (t : Ty) (hg : Gl X (tyS t)) (hm : X.mg (tyS t) = none) : PE X (.Name (tyS t) pos) (tC (.ty (tyN t))) := by
  cases t <;> exact pe_bltn hg hm (by decide +kernel) rfl (by decide +kernel) (by decide +kernel)
theorem r_isi1 {p2 : Pos} (t : Ty) (hg : Gl X "isinstance") (hm : X.mg "isinstance" = none) (hgt : Gl X (tyS t)) (hmt : X.mg (tyS t) = none) (ha : PE X a (tE X.K cls W F ca)) (hs : starEach (a :: [.Name (tyS t) p2]) X.env = (false, eval a X.env) :: starEach [.Name (tyS t) p2] X.env) :
    PE X (.Call (.Name "isinstance" p) [a, .Name (tyS t) p2] [] pos) (tE X.K cls W F (.isi ca [t])) :=
  PEm (pe_callB call_isi hg hm (by decide +kernel) (pa_cons ha (pa_cons (pe_ty t hgt hmt) pa_nil) hs) (by decide +kernel) (by decide +kernel) hs) fun σ H Q ⟨B, L, w, s, o, hR, e, k, hx⟩ => by
    rw [evE] at e
    refine tE_bd hR e hx fun x s1 w1 v1 H1 x1 R1 o1 e1 hx1 => ?_
    obtain ⟨d, l, e2⟩ := lkp_some e1
    obtain ⟨r, e3, rfl⟩ := op_some e2
    cases hd : isD d [t] with
    | none => rw [hd] at e3; cases e3
    | some c =>
      rw [hd] at e3
      cases e3
      obtain ⟨rfl, hk⟩ := kit_D (K := X.K) hd
      refine ⟨v1, .ty (tyN t), _, _, isTy d t, rfl, .ty _, tyX_rd R1.gh hd (R1.rd l o1), hk t, ?_⟩
      have z : ([t].any (isTy d)) = isTy d t := by simp
      rw [z] at k
      exact k _ _ rfl w1 _ H1 x1 R1 (res_sh rep_bl)
/-- a tuple of types -/
theorem pa_tys : ∀ (ts : List Ty) (ps : List Pos), ts.length = ps.length → (∀ t, t ∈ ts → Gl X (tyS t) ∧ X.mg (tyS t) = none) →
    PA X ((ts.zip ps).map fun q => .Name (tyS q.1) q.2) (fun σ H Q => Q (ts.map fun t => V.ty (tyN t)) H)
  | [], [], _, _ => PAm pa_nil fun σ H Q h => h
  | t :: ts, p :: ps, hl, h => PAm (pa_cons (pe_ty t (h t List.mem_cons_self).1 (h t List.mem_cons_self).2) (pa_tys ts ps (by simpa using hl) fun t' h' => h t' (List.mem_cons_of_mem _ h'))) fun σ H Q q => q
theorem clsv_tys : ∀ ts : List Ty, Paired ClsV (ts.map fun t => V.ty (tyN t)) (ts.map fun t => Value.type (tyN t))
  | [] => .nil
  | t :: ts => .cons (.ty _) (clsv_tys ts)
theorem r_isiT {k0 : Nat} {p2 : Pos} (ts : List Ty) (ps : List Pos) (hl : ts.length = ps.length) (hl2 : ts.length ≤ 8) (hg : Gl X "isinstance") (hm : X.mg "isinstance" = none) (ht : ∀ t, t ∈ ts → Gl X (tyS t) ∧ X.mg (tyS t) = none) (ha : PE X a (tE X.K cls W F ca))
    (hs : starEach (a :: [.Tuple ((ts.zip ps).map fun q => .Name (tyS q.1) q.2) k0 p2]) X.env = (false, eval a X.env) :: starEach [.Tuple ((ts.zip ps).map fun q => .Name (tyS q.1) q.2) k0 p2] X.env) :
    PE X (.Call (.Name "isinstance" p) [a, .Tuple ((ts.zip ps).map fun q => .Name (tyS q.1) q.2) k0 p2] [] pos) (tE X.K cls W F (.isi ca ts)) :=
  PEm (pe_callB call_isiT hg hm (by decide +kernel) (pa_cons ha (pa_cons (pe_tup (pa_tys ts ps hl ht)) pa_nil) hs) (by decide +kernel) (by decide +kernel) hs) fun σ H Q ⟨B, L, w, s, o, hR, e, k, hx⟩ => by
    rw [evE] at e
    refine tE_bd hR e hx fun x s1 w1 v1 H1 x1 R1 o1 e1 hx1 => ?_
    obtain ⟨d, l, e2⟩ := lkp_some e1
    obtain ⟨r, e3, rfl⟩ := op_some e2
    cases hd : isD d ts with
    | none => rw [hd] at e3; cases e3
    | some c =>
      rw [hd] at e3
      cases e3
      obtain ⟨rfl, hk⟩ := kit_D (K := X.K) hd
      refine ⟨by rw [List.length_map]; exact Nat.le_trans hl2 (by decide), fun q hq => ?_⟩
      have R2 := R1.beside (o := .tup (ts.map fun t => V.ty (tyN t))) hq
      exact ⟨v1, q, _, _, _, _, rfl, upd_same, clsv_tys ts, tyX_rd R2.gh hd (R2.rd l o1), kit_any hk ts, k _ _ rfl w1 _ _ x1 R2 (res_sh rep_bl)⟩
/-! ### methods that change a list -/
/-- one's own list is changed -/
theorem Rel.mutOw {K : PySem.W.Frag} {B : Hp} {L : Nat → Option Addr} {w : Wr} {s : Sx} {σ : L2.St} {H : Hp} (r : Rel K B L w s σ H) {i : Nat} {d d' : D} {a : Addr} {o : HO} (hi : s.e[i]? = some (some ⟨.ow, d⟩)) (hσ : σ[i]? = some (some (.ref a))) (hw : Own K w (upd H a o) a d') :
    Rel K B L w { s with e := s.e.set i (some ⟨.ow, d'⟩) } σ (upd H a o) := by
  obtain ⟨a', q1, q2, q3, q4, q5⟩ := r.ow i d hi
  rw [hσ] at q1
  cases q1
  have hil : i < s.e.length := (List.getElem?_eq_some_iff.mp hi).1
  have self : ∀ y, (s.e.set i (some ⟨.ow, d'⟩))[i]? = some y → y = some ⟨.ow, d'⟩ := fun y h => by rw [List.getElem?_set_self hil] at h; exact (Option.some.inj h).symm
  have other : ∀ j y, j ≠ i → (s.e.set i (some ⟨.ow, d'⟩))[j]? = some y → s.e[j]? = some y := fun j y h e => by rw [List.getElem?_set_ne (Ne.symm h)] at e; exact e
  refine ⟨fun b u h => ?_, fun b u h => ?_, by simpa using r.len, fun j x h => ?_, fun j x h => ?_, fun j x h => ?_, fun j b h => ?_, fun j l x y b h1 h2 p1 p2 => ?_, r.cn, fun n ds h => ?_, r.cf, r.clen⟩
  · rw [upd_ne (fun z => by rw [z, q2] at h; cases h)]; exact r.gh b u h
  · rw [upd_ne (fun z => by rw [z, q3] at h; cases h)]; exact r.bh b u h
  · by_cases z : j = i
    · subst z; cases self _ h
    · exact r.sh j x (other j _ z h)
  · by_cases z : j = i
    · subst z
      cases self _ h
      exact ⟨a, hσ, q2, q3, q4, hw⟩
    · obtain ⟨b, p1, p2, p3, p4, p5⟩ := r.ow j x (other j _ z h)
      refine ⟨b, p1, p2, p3, p4, p5.mono Gr.refl (upd_ne fun y => z ?_)⟩
      exact r.inj j i _ _ b (other j _ z h) hi p1 (by rw [y]; exact hσ)
  · by_cases z : j = i
    · subst z; cases self _ h
    · obtain ⟨b, p1, p2, p3, p4, p5⟩ := r.lk j x (other j _ z h)
      exact ⟨b, p1, p2, p3, p4, p5.mono Gr.refl (upd_ne fun y => p3 (by rw [y]; exact q3))⟩
  · obtain ⟨x, q⟩ := r.lk' j b h
    have z : j ≠ i := fun z => by subst z; rw [hi] at q; cases q
    exact ⟨x, by show (s.e.set i _)[j]? = _; rw [List.getElem?_set_ne (Ne.symm z)]; exact q⟩
  · by_cases z : j = i
    · by_cases y' : l = i
      · rw [z, y']
      · subst z
        exact r.inj j l d y b hi (other l _ y' h2) p1 p2
    · by_cases y' : l = i
      · subst y'
        exact r.inj j l x d b (other j _ z h1) hi p1 p2
      · exact r.inj j l x y b (other j _ z h1) (other l _ y' h2) p1 p2
  · obtain ⟨b, us, p1, p2, p3⟩ := r.cl n ds h
    refine ⟨b, us, p1, ?_, p3⟩
    rw [upd_ne (fun z => q4 (by rw [← z]; exact List.mem_of_getElem? p1))]
    exact p2
/-- a cell is changed -/
theorem Rel.mutCel {K : PySem.W.Frag} {B : Hp} {L : Nat → Option Addr} {w : Wr} {s : Sx} {σ : L2.St} {H : Hp} (r : Rel K B L w s σ H) {n : Nat} {a : Addr} {ds : List D} {vs : List V} (hn : w.ca[n]? = some a) (hw : Reps K w ds vs) :
    Rel K B L w { s with c := s.c.set n ds } σ (upd H a (.lst vs)) := by
  have ha : a ∈ w.ca := List.mem_of_getElem? hn
  obtain ⟨g0, b0⟩ := r.cf a ha
  have hnl : n < s.c.length := by rw [r.clen]; exact (List.getElem?_eq_some_iff.mp hn).1
  refine ⟨fun b u h => ?_, fun b u h => ?_, r.len, r.sh, fun j x h => ?_, fun j x h => ?_, r.lk', r.inj, r.cn, fun m es h => ?_, r.cf, by simpa using r.clen⟩
  · rw [upd_ne (fun z => by rw [z, g0] at h; cases h)]; exact r.gh b u h
  · rw [upd_ne (fun z => by rw [z, b0] at h; cases h)]; exact r.bh b u h
  · obtain ⟨b, p1, p2, p3, p4, p5⟩ := r.ow j x h
    exact ⟨b, p1, p2, p3, p4, p5.mono Gr.refl (upd_ne fun y => p4 (by rw [y]; exact ha))⟩
  · obtain ⟨b, p1, p2, p3, p4, p5⟩ := r.lk j x h
    exact ⟨b, p1, p2, p3, p4, p5.mono Gr.refl (upd_ne fun y => p3 (by rw [y]; exact b0))⟩
  · by_cases z : m = n
    · subst z
      have h' : (s.c.set m ds)[m]? = some es := h
      rw [List.getElem?_set_self hnl] at h'
      cases h'
      exact ⟨a, vs, hn, upd_same, hw⟩
    · have h' : (s.c.set n ds)[m]? = some es := h
      rw [List.getElem?_set_ne (Ne.symm z)] at h'
      obtain ⟨b, us, p1, p2, p3⟩ := r.cl m es h'
      refine ⟨b, us, p1, ?_, p3⟩
      rw [upd_ne (fun y => z ?_)]
      · exact p2
      · rw [y] at p1
        exact nd_ix r.cn p1 hn
theorem Reps.getLast {K : PySem.W.Frag} {w : Wr} {ds : List D} {vs : List V} {d : D} (h : Reps K w ds vs) (e : ds.getLast? = some d) : ∃ v, vs[vs.length - 1]? = some v ∧ Rep K w d v := by
  rw [List.getLast?_eq_getElem?] at e
  obtain ⟨v, e1, r⟩ := h.get e
  exact ⟨v, by rw [h.len]; exact e1, r⟩
theorem Reps.dropLast {K : PySem.W.Frag} {w : Wr} {ds : List D} {vs : List V} (h : Reps K w ds vs) : Reps K w ds.dropLast vs.dropLast := by
  rw [List.dropLast_eq_take, List.dropLast_eq_take, h.len]
  exact h.take _
/-- what mutE needs and gives -/
theorem mutE_some {m : Mth} {x : R} {ds : List D} {s : Sx} {o : Out R} (e : mutE m x ds s = some o) : ∃ xs y ys s', mutD m xs ds = some (y, ys) ∧ o = .ok (.sh y) s' ∧
    ((∃ i, x = .nm i ∧ s.e[i]? = some (some ⟨.ow, .lst xs⟩) ∧ s' = { s with e := s.e.set i (some ⟨.ow, .lst ys⟩) }) ∨
     ∃ n, s.c[n]? = some xs ∧ s' = { s with c := s.c.set n ys } ∧ (x = .sh (.cel n) ∨ ∃ i, x = .nm i ∧ s.e[i]? = some (some ⟨.sh, .cel n⟩))) := by
  have cel : ∀ {n : Nat}, mutC m n ds s = some o → (x = .sh (.cel n) ∨ ∃ i, x = .nm i ∧ s.e[i]? = some (some ⟨.sh, .cel n⟩)) → ∃ xs y ys s', mutD m xs ds = some (y, ys) ∧ o = .ok (.sh y) s' ∧
    ((∃ i, x = .nm i ∧ s.e[i]? = some (some ⟨.ow, .lst xs⟩) ∧ s' = { s with e := s.e.set i (some ⟨.ow, .lst ys⟩) }) ∨
     ∃ n, s.c[n]? = some xs ∧ s' = { s with c := s.c.set n ys } ∧ (x = .sh (.cel n) ∨ ∃ i, x = .nm i ∧ s.e[i]? = some (some ⟨.sh, .cel n⟩))) := fun {n} e hx => by
    unfold mutC at e
    split at e
    · rename_i xs h
      split at e
      · rename_i y ys h2
        cases e
        exact ⟨xs, y, ys, _, h2, rfl, .inr ⟨n, h, rfl, hx⟩⟩
      · cases e
    · cases e
  unfold mutE at e
  split at e
  · rename_i i
    split at e
    · rename_i xs h
      split at e
      · rename_i y ys h2
        cases e
        exact ⟨xs, y, ys, _, h2, rfl, .inl ⟨i, rfl, h, rfl⟩⟩
      · cases e
    · rename_i n h
      exact cel e (.inr ⟨i, rfl, h⟩)
    · cases e
  · rename_i n
    exact cel e (.inl rfl)
  · cases e
/-- the place of a list that is changed -/
theorem mut_place {K : PySem.W.Frag} {B : Hp} {L : Nat → Option Addr} {w w0 : Wr} {s s' : Sx} {σ : L2.St} {H : Hp} {x : R} {a : Addr} {xs ys : List D} (R : Rel K B L w s σ H) (g : Gr w0 w) (o1 : OpOk K w0 σ x (.ref a))
    (h : (∃ i, x = .nm i ∧ s.e[i]? = some (some ⟨.ow, .lst xs⟩) ∧ s' = { s with e := s.e.set i (some ⟨.ow, .lst ys⟩) }) ∨
     ∃ n, s.c[n]? = some xs ∧ s' = { s with c := s.c.set n ys } ∧ (x = .sh (.cel n) ∨ ∃ i, x = .nm i ∧ s.e[i]? = some (some ⟨.sh, .cel n⟩))) :
    ∃ us, H a = some (.lst us) ∧ Reps K w xs us ∧ ∀ us', Reps K w ys us' → Rel K B L w s' σ (upd H a (.lst us')) := by
  rcases h with ⟨i, rfl, hi, rfl⟩ | ⟨n, hn, rfl, hx⟩
  · have hσ : σ[i]? = some (some (.ref a)) := o1
    obtain ⟨p, q1, q2, q3, q4, us, q5, q6⟩ := R.ow i _ hi
    rw [hσ] at q1; cases q1
    exact ⟨us, q5, q6, fun us' r => R.mutOw hi hσ ⟨us', upd_same, r⟩⟩
  · have ha : w.ca[n]? = some a := by
      rcases hx with rfl | ⟨i, rfl, hi⟩
      · have o2 : Rep K w0 (.cel n) (.ref a) := o1
        have o3 := o2.mono g
        unfold Rep at o3
        obtain ⟨b, q1, q2⟩ := o3
        cases q2
        exact q1
      · have hσ : σ[i]? = some (some (.ref a)) := o1
        obtain ⟨v, q1, q2⟩ := R.sh i _ hi
        rw [hσ] at q1; cases q1
        unfold Rep at q2
        obtain ⟨b, q1, q2⟩ := q2
        cases q2
        exact q1
    obtain ⟨b, us, q1, q2, q3⟩ := R.cl n xs hn
    rw [ha] at q1; cases q1
    exact ⟨us, q2, q3, fun us' r => R.mutCel ha r⟩
theorem mt_split {m : Mth} (hm : isMut m = true) {σ : L2.St} {H : Hp} {Q : VK} (h : tE X.K cls W F (.mt m ca cs) σ H Q) (T : V → List V → Hp → VK → Prop)
    (hT : ∀ {w : Wr} {H : Hp} {a : Addr} {xs ds : List D} {y : D} {ys : List D} {us vs : List V} {Q : VK}, (∀ b o, w.G b = some o → H b = some o) → H a = some (.lst us) → Reps X.K w xs us → mutD m xs ds = some (y, ys) → Reps X.K w ds vs →
      (∀ us' v', Reps X.K w ys us' → Rep X.K w y v' → Q v' (upd H a (.lst us'))) → T (.ref a) vs H Q) :
    tE X.K cls W F ca σ H fun x H1 => tyV X.K "list" x H1 ∧ tAs X.K cls W F cs σ H1 fun vs H2 => T x vs H2 Q := by
  obtain ⟨B, L, w, s, o, hR, e, k, hx⟩ := h
  rw [evE] at e
  refine tE_bd hR e hx fun x s1 w1 v1 H1 x1 R1 o1 e1 hx1 => ?_
  obtain ⟨d, l, e2⟩ := lkp_some e1
  rw [hm] at e2
  cases d with
  | lst ds0 =>
    obtain ⟨a0, vs0, rfl, h1, h2⟩ := (R1.rd l o1).lst R1.gh
    refine ⟨.inl ⟨rfl, vs0, SqL.of h1⟩, ?_⟩
    refine tM_bd R1 e2 hx1 fun rs s2 w2 vs H2 x2 R2 o2 e3 hx2 => ?_
    obtain ⟨ds, s3, w3, e4, x3, R3, p3, c3⟩ := escs_bd R2 o2 e3
    obtain ⟨xs, y, ys, s', hm', rfl, hp⟩ := mutE_some e4
    obtain ⟨us, q1, q2, q3⟩ := mut_place R3 (x2.toGr.trans x3.toGr) o1 hp
    exact hT R3.gh q1 q2 hm' p3 fun us' v' r rp => k _ _ rfl w3 v' _ (x1.trans (x2.trans x3)) (q3 us' r) rp
  | _ => cases e2
variable {apos cpos : Pos}
/-- a method of a list with arguments -/
theorem r_mut {m : Mth} (hm : isMut m = true) {name : Str} {id : String} {T : V → List V → Hp → VK → Prop} (slot : Slot "list" name id) (hty : typeOf (.builtin id) = pure (.type "method_descriptor")) (mt : MtR X id T)
    (hT : ∀ {w : Wr} {H : Hp} {a : Addr} {xs ds : List D} {y : D} {ys : List D} {us vs : List V} {Q : VK}, (∀ b o, w.G b = some o → H b = some o) → H a = some (.lst us) → Reps X.K w xs us → mutD m xs ds = some (y, ys) → Reps X.K w ds vs →
      (∀ us' v', Reps X.K w ys us' → Rep X.K w y v' → Q v' (upd H a (.lst us'))) → T (.ref a) vs H Q)
    (ha : PE X a (tE X.K cls W F ca)) (hb : PA X (b :: es) (tAs X.K cls W F cs)) (hbase : attributeBase a name X.env (eval a X.env) = eval a X.env) (hline : (apos.endLine == cpos.line) = true)
    (hfew : ((backTo cpos (starEach (b :: es) X.env)).all (fun x => !x.1) && (backToKw cpos (keywordEach [] X.env)).all (fun x => x.1.isSome) && decide ((b :: es).length + ([] : List Keyword).length + (if ([] : List Keyword).isEmpty then 0 else 1) < 30)) = true)
    (hs : starEach (b :: es) X.env = (false, eval b X.env) :: starEach es X.env) (hpl : (backTo cpos (starEach es X.env)).any (·.1) = false) :
    PE X (.Call (.Attribute a name apos) (b :: es) [] cpos) (tE X.K cls W F (.mt m ca cs)) :=
  PEm (pe_bm PySem.F.plainAttrs_list slot hty mt ha hb hbase hfew hline hs hpl) fun σ H Q h => mt_split hm h T hT
theorem hT_append {w : Wr} {H : Hp} {a : Addr} {xs ds : List D} {y : D} {ys : List D} {us vs : List V} {Q : VK} (hG : ∀ b o, w.G b = some o → H b = some o) (ha : H a = some (.lst us)) (r : Reps X.K w xs us) (hm : mutD .append xs ds = some (y, ys)) (rp : Reps X.K w ds vs)
      (k : ∀ us' v', Reps X.K w ys us' → Rep X.K w y v' → Q v' (upd H a (.lst us'))) : rAppend (.ref a) vs H Q := by
  unfold mutD at hm
  split at hm
  · split at hm
    · rename_i hz
      cases hm
      unfold Reps at rp
      obtain ⟨v0, r0, rfl, rp1, rp2⟩ := rp
      unfold Reps at rp2
      subst rp2
      exact ⟨a, us, v0, rfl, rfl, ha, by rw [r.len, sizeLine_eq]; exact hz, k _ _ (r.app (Reps.one rp1)) rep_non⟩
    · cases hm
  all_goals first | (rename_i h; cases h; done) | cases hm
theorem hT_extend {w : Wr} {H : Hp} {a : Addr} {xs ds : List D} {y : D} {ys : List D} {us vs : List V} {Q : VK} (hG : ∀ b o, w.G b = some o → H b = some o) (ha : H a = some (.lst us)) (r : Reps X.K w xs us) (hm : mutD .extend xs ds = some (y, ys)) (rp : Reps X.K w ds vs)
      (k : ∀ us' v', Reps X.K w ys us' → Rep X.K w y v' → Q v' (upd H a (.lst us'))) : rExtend (.ref a) vs H Q := by
  unfold mutD at hm
  split at hm
  all_goals first
    | (rename_i h; cases h; done)
    | skip
  · split at hm
    · rename_i hz
      cases hm
      unfold Reps at rp
      obtain ⟨v0, r0, rfl, rp1, rp2⟩ := rp
      unfold Reps at rp2
      subst rp2
      unfold Rep at rp1
      obtain ⟨b, zs, rfl, g1, g2⟩ := rp1
      exact ⟨a, b, us, zs, rfl, rfl, ha, hG _ _ g1, by rw [r.len, g2.len, sizeLine_eq]; exact hz, k _ _ (r.app g2) rep_non⟩
    · cases hm
  all_goals cases hm
def rInsert : V → List V → Hp → VK → Prop := fun x vs H Q => ∃ (l : Addr) (xs : List V) (i : Int) (y : V), x = .ref l ∧ vs = [.int i, y] ∧ H l = some (.lst xs) ∧ xs.length < sizeLine ∧ 0 ≤ i ∧ i < 2 ^ 63 ∧ Q .non (upd H l (.lst (xs.take i.toNat ++ [y] ++ xs.drop i.toNat)))
theorem hT_insert {w : Wr} {H : Hp} {a : Addr} {xs ds : List D} {y : D} {ys : List D} {us vs : List V} {Q : VK} (hG : ∀ b o, w.G b = some o → H b = some o) (ha : H a = some (.lst us)) (r : Reps X.K w xs us) (hm : mutD .insert xs ds = some (y, ys)) (rp : Reps X.K w ds vs)
      (k : ∀ us' v', Reps X.K w ys us' → Rep X.K w y v' → Q v' (upd H a (.lst us'))) : rInsert (.ref a) vs H Q := by
  unfold mutD at hm
  split at hm
  all_goals first
    | (rename_i h; cases h; done)
    | skip
  · split at hm
    · rename_i hz
      cases hm
      unfold Reps at rp
      obtain ⟨v0, r0, rfl, rp1, rp2⟩ := rp
      unfold Reps at rp2
      obtain ⟨v1, r1, rfl, rp2, rp3⟩ := rp2
      unfold Reps at rp3
      subst rp3
      unfold Rep at rp1
      subst rp1
      exact ⟨a, us, _, v1, rfl, rfl, ha, by rw [r.len, sizeLine_eq]; exact hz.1, hz.2.1, hz.2.2, k _ _ (((r.take _).app (Reps.one rp2)).app (r.drop _)) rep_non⟩
    · cases hm
  all_goals cases hm
theorem Reps.erase {K : PySem.W.Frag} {w : Wr} {ds : List D} {vs : List V} (h : Reps K w ds vs) (n : Nat) : Reps K w (ds.eraseIdx n) (vs.eraseIdx n) := by
  rw [List.eraseIdx_eq_take_drop_succ, List.eraseIdx_eq_take_drop_succ]
  exact (h.take _).app (h.drop _)
theorem seqIx {n : Nat} {i : Int} {j : Nat} (h : ixN n i = some j) : seqIndex? i n = some j := by
  unfold ixN at h
  unfold seqIndex?
  by_cases h0 : 0 ≤ i
  · rw [if_pos h0] at h
    by_cases h1 : i < n
    · rw [if_pos h1] at h
      cases h
      have h2 : ¬ i < 0 := by omega
      simp [h2, h0, h1]
    · rw [if_neg h1] at h
      cases h
  · rw [if_neg h0] at h
    by_cases h1 : -(n : Int) ≤ i
    · rw [if_pos h1] at h
      cases h
      have h2 : i < 0 := by omega
      have h3 : 0 ≤ i + (n : Int) := by omega
      have h4 : i + (n : Int) < n := by omega
      simp [h2, h3, h4]
    · rw [if_neg h1] at h
      cases h
theorem hT_popAt {w : Wr} {H : Hp} {a : Addr} {xs ds : List D} {y : D} {ys : List D} {us vs : List V} {Q : VK} (hG : ∀ b o, w.G b = some o → H b = some o) (ha : H a = some (.lst us)) (r : Reps X.K w xs us) (hm : mutD .popAt xs ds = some (y, ys)) (rp : Reps X.K w ds vs)
      (k : ∀ us' v', Reps X.K w ys us' → Rep X.K w y v' → Q v' (upd H a (.lst us'))) : rPopAt (.ref a) vs H Q := by
  unfold mutD at hm
  split at hm
  all_goals first
    | (rename_i h; cases h; done)
    | skip
  · split at hm
    · rename_i j hj
      split at hm
      · rename_i z hz
        split at hm
        · rename_i hb
          cases hm
          unfold Reps at rp
          obtain ⟨v0, r0, rfl, rp1, rp2⟩ := rp
          unfold Reps at rp2
          subst rp2
          unfold Rep at rp1
          subst rp1
          obtain ⟨u, g1, g2⟩ := r.get hz
          refine ⟨a, us, _, j, u, rfl, rfl, ha, hb.1, hb.2, ?_, g1, k _ _ (r.erase j) g2⟩
          rw [r.len]
          exact seqIx hj
        · cases hm
      · cases hm
    · cases hm
  all_goals cases hm
theorem r_append (ha : PE X a (tE X.K cls W F ca)) (hb : PA X (b :: es) (tAs X.K cls W F cs)) (hbase : attributeBase a "append" X.env (eval a X.env) = eval a X.env) (hline : (apos.endLine == cpos.line) = true)
    (hfew : ((backTo cpos (starEach (b :: es) X.env)).all (fun x => !x.1) && (backToKw cpos (keywordEach [] X.env)).all (fun x => x.1.isSome) && decide ((b :: es).length + ([] : List Keyword).length + (if ([] : List Keyword).isEmpty then 0 else 1) < 30)) = true)
    (hs : starEach (b :: es) X.env = (false, eval b X.env) :: starEach es X.env) (hpl : (backTo cpos (starEach es X.env)).any (·.1) = false) :
    PE X (.Call (.Attribute a "append" apos) (b :: es) [] cpos) (tE X.K cls W F (.mt .append ca cs)) :=
  r_mut rfl PySem.F.slot_list_append PySem.F.type_list_append mt_append hT_append ha hb hbase hline hfew hs hpl
theorem mt_split0 {m : Mth} (hm : isMut m = true) {σ : L2.St} {H : Hp} {Q : VK} (h : tE X.K cls W F (.mt m ca .nil) σ H Q) (T : V → List V → Hp → VK → Prop)
    (hT : ∀ {w : Wr} {H : Hp} {a : Addr} {xs : List D} {y : D} {ys : List D} {us : List V} {Q : VK}, H a = some (.lst us) → Reps X.K w xs us → mutD m xs [] = some (y, ys) →
      (∀ us' v', Reps X.K w ys us' → Rep X.K w y v' → Q v' (upd H a (.lst us'))) → T (.ref a) [] H Q) :
    tE X.K cls W F ca σ H fun x H1 => tyV X.K "list" x H1 ∧ T x [] H1 Q := by
  obtain ⟨B, L, w, s, o, hR, e, k, hx⟩ := h
  rw [evE] at e
  refine tE_bd hR e hx fun x s1 w1 v1 H1 x1 R1 o1 e1 hx1 => ?_
  obtain ⟨d, l, e2⟩ := lkp_some e1
  rw [hm] at e2
  cases d with
  | lst ds0 =>
    obtain ⟨a0, vs0, rfl, h1, h2⟩ := (R1.rd l o1).lst R1.gh
    refine ⟨.inl ⟨rfl, vs0, SqL.of h1⟩, ?_⟩
    rw [evAs] at e2
    have e4 : mutE m x [] s1 = some o := e2
    obtain ⟨xs, y, ys, s', hm', rfl, hp⟩ := mutE_some e4
    obtain ⟨us, q1, q2, q3⟩ := mut_place R1 Gr.refl o1 hp
    exact hT q1 q2 hm' fun us' v' r rp => k _ _ rfl w1 v' _ x1 (q3 us' r) rp
  | _ => cases e2
theorem r_pop (ha : PE X a (tE X.K cls W F ca)) (hbase : attributeBase a "pop" X.env (eval a X.env) = eval a X.env) (hline : (apos.endLine == cpos.line) = true) :
    PE X (.Call (.Attribute a "pop" apos) [] [] cpos) (tE X.K cls W F (.mt .pop ca .nil)) :=
  PEm (pe_bm0 PySem.F.plainAttrs_list PySem.F.slot_list_pop PySem.F.type_list_pop mt_pop ha hbase hline) fun σ H Q h => by
    refine mt_split0 rfl h rPop fun {w H a xs y ys us Q} ha r hm k => ?_
    have hm' : (match xs.getLast? with
      | some y => some (y, xs.dropLast)
      | none => none) = some (y, ys) := hm
    split at hm'
    · rename_i z hz
      cases hm'
      obtain ⟨u, g1, g2⟩ := r.getLast hz
      exact ⟨a, us, u, rfl, rfl, ha, g1, k _ _ r.dropLast g2⟩
    · cases hm'
theorem r_clear (ha : PE X a (tE X.K cls W F ca)) (hbase : attributeBase a "clear" X.env (eval a X.env) = eval a X.env) (hline : (apos.endLine == cpos.line) = true) :
    PE X (.Call (.Attribute a "clear" apos) [] [] cpos) (tE X.K cls W F (.mt .clear ca .nil)) :=
  PEm (pe_bm0 PySem.F.plainAttrs_list PySem.F.slot_list_clear PySem.F.type_list_clear mt_clear ha hbase hline) fun σ H Q h => by
    refine mt_split0 rfl h rClear fun {w H a xs y ys us Q} ha r hm k => ?_
    have hm' : some (D.non, ([] : List D)) = some (y, ys) := hm
    cases hm'
    exact ⟨a, us, rfl, rfl, ha, k _ _ Reps.nil rep_non⟩
/-! ### methods that read -/
theorem re_split {m : Mth} (hm : isMut m = false) {σ : L2.St} {H : Hp} {Q : VK} (h : tE X.K cls W F (.mt m ca cs) σ H Q) (T : V → List V → Hp → VK → Prop) (ty : String)
    (hty : ∀ {w : Wr} {H : Hp} {d : D} {v : V}, (∀ b o, w.G b = some o → H b = some o) → mthK m d = true → RdOk X.K w H d v → tyV X.K ty v H)
    (hT : ∀ {B : Hp} {L : Nat → Option Addr} {w : Wr} {s : Sx} {H : Hp} {d : D} {ds : List D} {v : V} {vs : List V} {r : R} {Q : VK}, Rel X.K B L w s σ H → RdOk X.K w H d v → ds.length = vs.length → (∀ (i : Nat) d v, ds[i]? = some d → vs[i]? = some v → RdOk X.K w H d v) → mthD m d ds = some r →
      (∀ w' v' H', Ext B w w' → Rel X.K B L w' s σ H' → ResOk X.K B w' s σ H' r v' → Q v' H') → T v vs H Q) :
    tE X.K cls W F ca σ H fun x H1 => tyV X.K ty x H1 ∧ tAs X.K cls W F cs σ H1 fun vs H2 => T x vs H2 Q := by
  obtain ⟨B, L, w, s, o, hR, e, k, hx⟩ := h
  rw [evE] at e
  refine tE_bd hR e hx fun x s1 w1 v1 H1 x1 R1 o1 e1 hx1 => ?_
  obtain ⟨d, l, e2⟩ := lkp_some e1
  rw [hm] at e2
  cases hk : mthK m d with
  | false => rw [hk] at e2; cases e2
  | true =>
    rw [hk] at e2
    refine ⟨hty R1.gh hk (R1.rd l o1), ?_⟩
    refine tM_bd R1 e2 hx1 fun rs s2 w2 vs H2 x2 R2 o2 e3 hx2 => ?_
    obtain ⟨ds, e4, hl, hd⟩ := looks_bd R2 o2 e3
    obtain ⟨d', l', e5⟩ := lkp_some e4
    obtain ⟨r, e6, rfl⟩ := op_some e5
    exact hT R2 (R2.rd l' (o1.mono x2.toGr)) hl hd e6 fun w' v' H' ex R' res => k _ _ rfl w' v' H' (x1.trans (x2.trans ex)) R' res
theorem tyV_lst {w : Wr} {H : Hp} {d : D} {v : V} {m : Mth} (hm : m = .index ∨ m = .count) (g : ∀ b o, w.G b = some o → H b = some o) (h : mthK m d = true) (r : RdOk X.K w H d v) : tyV X.K "list" v H := by
  have : ∃ ds, d = .lst ds := by
    rcases hm with rfl | rfl <;> cases d <;> first | exact ⟨_, rfl⟩ | cases h
  obtain ⟨ds, rfl⟩ := this
  obtain ⟨a, vs, rfl, h1, _⟩ := r.lst g
  exact .inl ⟨rfl, vs, SqL.of h1⟩
theorem tyV_str {w : Wr} {H : Hp} {d : D} {v : V} {m : Mth} (hm : m = .join ∨ m = .split ∨ m = .upper) (g : ∀ b o, w.G b = some o → H b = some o) (h : mthK m d = true) (r : RdOk X.K w H d v) : tyV X.K "str" v H := by
  have : ∃ ds, d = .str ds := by
    rcases hm with rfl | rfl | rfl <;> cases d <;> first | exact ⟨_, rfl⟩ | cases h
  obtain ⟨x, rfl⟩ := this
  rw [r.str]
  rfl
/-- a method that reads, with arguments -/
theorem r_read {m : Mth} (hm : isMut m = false) {name : Str} {id T : String} {r : V → List V → Hp → VK → Prop} (pa : PlainAttrs T) (slot : Slot T name id) (hty : typeOf (.builtin id) = pure (.type "method_descriptor")) (mt : MtR X id r)
    (ht : ∀ {w : Wr} {H : Hp} {d : D} {v : V}, (∀ b o, w.G b = some o → H b = some o) → mthK m d = true → RdOk X.K w H d v → tyV X.K T v H)
    (hT : ∀ {σ : L2.St} {B : Hp} {L : Nat → Option Addr} {w : Wr} {s : Sx} {H : Hp} {d : D} {ds : List D} {v : V} {vs : List V} {q : R} {Q : VK}, Rel X.K B L w s σ H → RdOk X.K w H d v → ds.length = vs.length → (∀ (i : Nat) d v, ds[i]? = some d → vs[i]? = some v → RdOk X.K w H d v) → mthD m d ds = some q →
      (∀ w' v' H', Ext B w w' → Rel X.K B L w' s σ H' → ResOk X.K B w' s σ H' q v' → Q v' H') → r v vs H Q)
    (ha : PE X a (tE X.K cls W F ca)) (hb : PA X (b :: es) (tAs X.K cls W F cs)) (hbase : attributeBase a name X.env (eval a X.env) = eval a X.env) (hline : (apos.endLine == cpos.line) = true)
    (hfew : ((backTo cpos (starEach (b :: es) X.env)).all (fun x => !x.1) && (backToKw cpos (keywordEach [] X.env)).all (fun x => x.1.isSome) && decide ((b :: es).length + ([] : List Keyword).length + (if ([] : List Keyword).isEmpty then 0 else 1) < 30)) = true)
    (hs : starEach (b :: es) X.env = (false, eval b X.env) :: starEach es X.env) (hpl : (backTo cpos (starEach es X.env)).any (·.1) = false) :
    PE X (.Call (.Attribute a name apos) (b :: es) [] cpos) (tE X.K cls W F (.mt m ca cs)) :=
  PEm (pe_bm pa slot hty mt ha hb hbase hfew hline hs hpl) fun σ H Q h => re_split hm h r T ht hT
theorem idxD_rep {K : PySem.W.Frag} {w : Wr} {x : D} {v : V} (f : flatD x = true) (h : Rep K w x v) : ∀ {ds : List D} {vs : List V} {j : Nat}, ds.all flatD = true → Reps K w ds vs → idxD x ds = some j → ∃ z, vs[j]? = some z ∧ eqV z v = true ∧ ∀ (m : Nat) z', m < j → vs[m]? = some z' → eqV z' v = false
  | [], vs, j, _, _, e => by cases e
  | d :: ds, vs, j, f', h', e => by
    unfold Reps at h'
    obtain ⟨u, r, rfl, h1, h2⟩ := h'
    rw [List.all_cons, Bool.and_eq_true] at f'
    unfold idxD at e
    have e1 := eqF_rep f'.1 f h1 h
    split at e
    · rename_i hq
      cases e
      exact ⟨u, rfl, e1.trans hq, fun m z' hm => absurd hm (Nat.not_lt_zero m)⟩
    · rename_i hq
      split at e
      · rename_i j' e'
        cases e
        obtain ⟨z, g1, g2, g3⟩ := idxD_rep f h f'.2 h2 e'
        refine ⟨z, by rw [List.getElem?_cons_succ]; exact g1, g2, fun m z' hm hz => ?_⟩
        cases m with
        | zero =>
          cases hz
          exact e1.trans (by simpa using hq)
        | succ m => exact g3 m z' (by omega) (by rw [List.getElem?_cons_succ] at hz; exact hz)
      · cases e
theorem flat_rd {K : PySem.W.Frag} {w : Wr} {H : Hp} {d : D} {v : V} (f : flatD d = true) (h : RdOk K w H d v) : Rep K w d v := by
  rcases h with h | ⟨b, _, h⟩
  · exact h
  · cases d <;> first | exact h.elim | (cases f)
theorem hT_index {σ : L2.St} {B : Hp} {L : Nat → Option Addr} {w : Wr} {s : Sx} {H : Hp} {d : D} {ds : List D} {v : V} {vs : List V} {q : R} {Q : VK} (R : Rel X.K B L w s σ H) (hd : RdOk X.K w H d v) (hl : ds.length = vs.length) (ha : ∀ (i : Nat) d v, ds[i]? = some d → vs[i]? = some v → RdOk X.K w H d v) (e : mthD .index d ds = some q)
    (k : ∀ w' v' H', Ext B w w' → Rel X.K B L w' s σ H' → ResOk X.K B w' s σ H' q v' → Q v' H') : rIndex X.K v vs H Q := by
  unfold mthD at e
  split at e
  all_goals first
    | (rename_i h; cases h; done)
    | skip
  · split at e
    · rename_i hf
      split at e
      · rename_i j hj
        cases e
        obtain ⟨u, rfl, h⟩ := one_rd hl ha
        obtain ⟨a, us, rfl, h1, h2⟩ := hd.lst R.gh
        have hx := flat_rd hf.1 h
        obtain ⟨z, g1, g2, g3⟩ := idxD_rep hf.1 hx hf.2 h2 hj
        exact ⟨a, us, u, j, z, rfl, rfl, SqL.of h1, flat_rep hf.1 hx, flat_reps hf.2 h2, g1, g2, fun m z' hm hz => g3 m z' hm hz, k w _ H Ext.refl R (res_sh rep_int)⟩
      · cases e
    · cases e
  all_goals cases e
theorem hT_count {σ : L2.St} {B : Hp} {L : Nat → Option Addr} {w : Wr} {s : Sx} {H : Hp} {d : D} {ds : List D} {v : V} {vs : List V} {q : R} {Q : VK} (R : Rel X.K B L w s σ H) (hd : RdOk X.K w H d v) (hl : ds.length = vs.length) (ha : ∀ (i : Nat) d v, ds[i]? = some d → vs[i]? = some v → RdOk X.K w H d v) (e : mthD .count d ds = some q)
    (k : ∀ w' v' H', Ext B w w' → Rel X.K B L w' s σ H' → ResOk X.K B w' s σ H' q v' → Q v' H') : rCntI X.K v vs H Q := by
  unfold mthD at e
  split at e
  all_goals first
    | (rename_i h; cases h; done)
    | skip
  · split at e
    · rename_i ns e1
      cases e
      obtain ⟨u, rfl, h⟩ := one_rd hl ha
      obtain ⟨a, us, rfl, h1, h2⟩ := hd.lst R.gh
      have := ints_of e1 h2
      subst this
      exact ⟨a, ns, _, rfl, by rw [h.int], SqL.of h1, k w _ H Ext.refl R (res_sh rep_int)⟩
    · cases e
  all_goals cases e
def rJoin (K : PySem.W.Frag) : V → List V → Hp → VK → Prop := fun x xs H Q => ∃ a p, ∃ ys : List Str, x = .str a ∧ xs = [.ref p] ∧ (SqL K H p (ys.map V.str) ∨ SqT K H p (ys.map V.str)) ∧ (ys.map (·.length)).sum + ys.length * a.length ≤ 16777216 ∧ Q (.str (Txt.join a ys)) H
theorem strs_of {K : PySem.W.Frag} {w : Wr} : ∀ {ds : List D} {bs : List Str} {vs : List V}, strsOf ds = some bs → Reps K w ds vs → vs = bs.map V.str
  | [], ns, vs, e, h => by
    cases e
    unfold Reps at h
    exact h
  | d :: ds, ns, vs, e, h => by
    unfold Reps at h
    obtain ⟨v, r, rfl, h1, h2⟩ := h
    cases d with
    | str i =>
      unfold strsOf at e
      split at e
      · rename_i is e'
        cases e
        unfold Rep at h1
        rw [h1, strs_of e' h2]
        rfl
      · cases e
    | _ => cases e
theorem strs_reps {K : PySem.W.Frag} {w : Wr} : ∀ ns : List Str, Reps K w (ns.map D.str) (ns.map V.str)
  | [] => Reps.nil
  | n :: ns => Reps.cons rep_str (strs_reps ns)
theorem hT_join {σ : L2.St} {B : Hp} {L : Nat → Option Addr} {w : Wr} {s : Sx} {H : Hp} {d : D} {ds : List D} {v : V} {vs : List V} {q : R} {Q : VK} (R : Rel X.K B L w s σ H) (hd : RdOk X.K w H d v) (hl : ds.length = vs.length) (ha : ∀ (i : Nat) d v, ds[i]? = some d → vs[i]? = some v → RdOk X.K w H d v) (e : mthD .join d ds = some q)
    (k : ∀ w' v' H', Ext B w w' → Rel X.K B L w' s σ H' → ResOk X.K B w' s σ H' q v' → Q v' H') : rJoin X.K v vs H Q := by
  unfold mthD at e
  split at e
  all_goals first
    | (rename_i h; cases h; done)
    | skip
  · split at e
    · rename_i ys e1
      split at e
      · rename_i hz
        cases e
        obtain ⟨u, rfl, h⟩ := one_rd hl ha
        obtain ⟨p, us, rfl, h1, h2⟩ := h.lst R.gh
        have := strs_of e1 h2
        subst this
        exact ⟨_, p, ys, hd.str, rfl, .inl (SqL.of h1), hz, k w _ H Ext.refl R (res_sh rep_str)⟩
      · cases e
    · cases e
  all_goals cases e
def rSplit : V → List V → Hp → VK → Prop := fun x xs H Q => ∃ a b, x = .str a ∧ xs = [.str b] ∧ (b.length == 0) = false ∧ a.length + 2 ≤ sizeLine ∧ rNewStrs (Txt.split a b) H Q
theorem hT_split {σ : L2.St} {B : Hp} {L : Nat → Option Addr} {w : Wr} {s : Sx} {H : Hp} {d : D} {ds : List D} {v : V} {vs : List V} {q : R} {Q : VK} (R : Rel X.K B L w s σ H) (hd : RdOk X.K w H d v) (hl : ds.length = vs.length) (ha : ∀ (i : Nat) d v, ds[i]? = some d → vs[i]? = some v → RdOk X.K w H d v) (e : mthD .split d ds = some q)
    (k : ∀ w' v' H', Ext B w w' → Rel X.K B L w' s σ H' → ResOk X.K B w' s σ H' q v' → Q v' H') : rSplit v vs H Q := by
  unfold mthD at e
  split at e
  all_goals first
    | (rename_i h; cases h; done)
    | skip
  · split at e
    · rename_i hz
      cases e
      obtain ⟨u, rfl, h⟩ := one_rd hl ha
      refine ⟨_, _, hd.str, by rw [h.str], hz.1, by rw [sizeLine_eq]; exact hz.2, fun p hp => ?_⟩
      obtain ⟨R', o'⟩ := R.newOwn (strs_reps _) hp
      exact k w _ _ Ext.refl R' o'
    · cases e
  all_goals cases e
/-- a dict's get with a number beside -/
theorem r_get {f : Expr} {cf : Int} (hu : X.A.units + 1 < cLine) (ha : PE X a (tE X.K cls W F ca)) (hb : PE X b (tE X.K cls W F cb)) (hf : PE X f (tC (.int cf))) (m : M2 X a "get" apos b f cpos) :
    PE X (.Call (.Attribute a "get" apos) [b, f] [] cpos) (tE X.K cls W F (.mt .get ca (.cons cb (.cons (.con (.int cf)) .nil)))) :=
  PEm (pe_dget2 hu ha hb hf m) fun σ H Q ⟨B, L, w, s, o, hR, e, k, hx⟩ => by
    rw [evE] at e
    refine tE_bd hR e hx fun x s1 w1 v1 H1 x1 R1 o1 e1 hx1 => ?_
    obtain ⟨d, l, e2⟩ := lkp_some e1
    rw [show isMut .get = false from rfl] at e2
    cases d with
    | dct kvs =>
      obtain ⟨a0, rfl, h1⟩ := (R1.rd l o1).nodct
      refine ⟨a0, rfl, .inl ⟨kvs, .inl h1⟩, ?_⟩
      have e3 : bd (evAs F (.cons cb (.cons (.con (.int cf)) .nil))) (fun rs => bd (looks rs) fun ds => bd (lkp x) fun d' => op? (mthD .get d' ds)) s1 = some o := e2
      rw [evAs, bd_bd] at e3
      refine tE_bd R1 e3 hx1 fun y s2 w2 v2 H2 x2 R2 o2 e4 hx2 => ?_
      have e5 : bd (lkp y) (fun kd => bd (lkp x) fun d' => op? (mthD .get d' [kd, .int cf])) s2 = some o := by
        rw [← e4]
        show _ = bd (looks [y, .sh (.int cf)]) _ s2
        rw [looks, bd_bd]
        rfl
      obtain ⟨kd, ly, e6⟩ := lkp_some e5
      have q1 := R2.rd ly o2
      obtain ⟨d', l', e7⟩ := lkp_some e6
      obtain ⟨r, e8, rfl⟩ := op_some e7
      have hd' := R2.rd l' (o1.mono x2.toGr)
      cases d' with
      | dct kvs' =>
        obtain ⟨a1, hv, g1⟩ := hd'.nodct
        cases hv
        have e8 : (match keyD kd with
          | some y => match vD ((valV kvs' y).getD (.int cf)) with
            | some d => some (R.sh d)
            | none => none
          | none => none) = some r := e8
        split at e8
        · rename_i y0 hy
          split at e8
          · rename_i dd hdd
            cases e8
            have hk : v2 = kV y0 := by
              cases kd with
              | int i => cases hy; rw [q1.int]; rfl
              | str i => cases hy; rw [q1.str]; rfl
              | _ => cases hy
            rw [hk]
            refine ⟨_, DGet.k g1, ?_⟩
            cases hv : (valV kvs' y0).getD (.int cf) with
            | int i =>
              rw [hv] at hdd
              cases hdd
              exact k _ _ rfl w2 _ H2 (x1.trans x2) R2 (res_sh rep_int)
            | bl i =>
              rw [hv] at hdd
              cases hdd
              exact k _ _ rfl w2 _ H2 (x1.trans x2) R2 (res_sh rep_bl)
            | _ => rw [hv] at hdd; cases hdd
          · cases e8
        · cases e8
      | _ => cases e8
    | _ => cases e2
theorem rg_reps {K : PySem.W.Frag} {w : Wr} {i j : Int} : Reps K w ((List.range (j - i).toNat).map fun (k : Nat) => D.int (i + (k : Int))) (rgV i j) := by
  unfold rgV
  generalize List.range (j - i).toNat = l
  induction l with
  | nil => exact Reps.nil
  | cons x l ih => exact Reps.cons rep_int ih
/-- len(set(xs)) of whole numbers, some alike -/
def tLenSetD (K : PySem.W.Frag) (ta : TE) : TE := fun σ H Q => ta σ H fun x H1 => ∃ (l : Addr) (ns : List Int), x = .ref l ∧ SqL K H1 l (ns.map V.int) ∧ ns.length < 64 ∧ Q (.int ((firstMet (fun i => ns.getD i 0) ns.length).length : Nat)) H1
theorem pe_lenSetD {X : Cx} {a : Expr} {ta : TE} {p p2 q pos : Pos} (hg : Gl X "len") (hm : X.mg "len" = none) (hg2 : Gl X "set") (hm2 : X.mg "set" = none) (ha : PE X a ta) (hc : X.calm = true)
    (na : starEach [a] X.env = (false, eval a X.env) :: starEach [] X.env) : PE X (.Call (.Name "len" p) [.Call (.Name "set" p2) [a] [] q] [] pos) (tLenSetD X.K ta) := by
  refine ⟨fun pins s σ H Q I h => ?_⟩
  refine Call_ (ld_blt I hg hm boot_len ?_)
  refine PyProof.Rows.callWith_builtin1 (PyProof.Rows.args_cons ?_ rfl) rfl rfl
  refine Call_ (ld_blt I hg2 hm2 boot_set ?_)
  refine PyProof.Rows.callWith_type1 (PyProof.Rows.args_cons (thn (ha.run pins s σ H _ I h) fun v s1 ⟨x, H1, I1, r1, q1⟩ => PyProof.Rows.args_nil ?_) na) na rfl
  obtain ⟨l, ns, rfl, hq, hl, q1⟩ := q1
  cases r1
  obtain ⟨its, r, pl, hz⟩ := I1.list hq
  have hlen : its.toArray.size = ns.length := by rw [List.size_toArray, ← r.length, List.length_map]
  refine call_set_list (I1.ok.hd hc) pl.isList (by simpa using RZ.intsAre_vals r) (by rw [hlen]; unfold scanBound; omega) fun h' tk hS hk => ?_
  refine PyProof.Rows.args_nil ?_
  rw [hlen] at hS
  have hle := firstMet_length_le (fun i => ns.getD i 0) ns.length
  obtain ⟨o, es, ep, t, ho, hex, hd, _, _, _, hf, hn⟩ := hS
  have I2 : Inv X pins σ H1 { s1 with heap := h', toks := tk } := I1.kept fun b o e => hk b o (Heap.lt_size e) e
  exact call_len_set ho hex hd hf (by rw [hn] <;> omega) ⟨.int _, H1, I2.tok _, ⟨_, by rw [hn]⟩, q1⟩
theorem r_lset {p2 q : Pos} (hc : X.calm = true) (hg : Gl X "len") (hm : X.mg "len" = none) (hg2 : Gl X "set") (hm2 : X.mg "set" = none) (ha : PE X a (tE X.K cls W F ca))
    (hs : starEach [a] X.env = (false, eval a X.env) :: starEach [] X.env) :
    PE X (.Call (.Name "len" p) [.Call (.Name "set" p2) [a] [] q] [] pos) (tE X.K cls W F (.lset ca)) :=
  PEm (pe_lenSetD hg hm hg2 hm2 ha hc hs) fun σ H Q ⟨B, L, w, s, o, hR, e, k, hx⟩ => by
    rw [evE] at e
    refine tE_bd hR e hx fun x s1 w1 v1 H1 x1 R1 o1 e1 hx1 => ?_
    obtain ⟨d, l1, e4⟩ := lkp_some e1
    obtain ⟨r, e5, rfl⟩ := op_some e4
    have g1 := R1.rd l1 o1
    unfold lsetD at e5
    split at e5
    · split at e5
      · rename_i ns hns
        split at e5
        · rename_i hz
          cases e5
          obtain ⟨p, vs, rfl, h1, h2⟩ := g1.lst R1.gh
          have hv := ints_of hns h2
          subst hv
          exact ⟨p, ns, rfl, SqL.of h1, hz, k _ _ rfl w1 _ H1 x1 R1 (res_sh rep_int)⟩
        · cases e5
      · cases e5
    · cases e5
/-- list(range(..)) -/
theorem r_lrng1 {p2 pos2 : Pos} (hc : X.calm = true) (hg : Gl X "list") (hm : X.mg "list" = none) (hg2 : Gl X "range") (hm2 : X.mg "range" = none) (ha : PE X a (tE X.K cls W F ca))
    (hs : starEach [a] X.env = (false, eval a X.env) :: starEach [] X.env) :
    PE X (.Call (.Name "list" p) [.Call (.Name "range" p2) [a] [] pos2] [] pos) (tE X.K cls W F (.blt .lrng (.cons ca .nil))) :=
  PEm (pe_listRg hc hg hm (prg_1 hg2 hm2 ha hs) rfl) fun σ H Q ⟨B, L, w, s, o, hR, e, k, hx⟩ => by
    rw [evE, evAs, bd_bd] at e
    refine tE_bd hR e hx fun x s1 w1 v1 H1 x1 R1 o1 e1 hx1 => ?_
    have e2 : bd (looks [x]) (fun ds => op? (bltD .lrng ds)) s1 = some o := e1
    obtain ⟨ds, e3, hl, hd⟩ := looks_bd R1 (vs := [v1]) (show OpsOk X.K w1 σ [x] [v1] from ⟨v1, _, rfl, o1, rfl⟩) e2
    obtain ⟨r, e4, rfl⟩ := op_some e3
    have e5 : lrngD ds = some r := by
      cases ds with
      | nil => cases hl
      | cons d ds => exact e4
    unfold lrngD at e5
    split at e5
    · split at e5
      · rename_i hz
        cases e5
        obtain ⟨v, hv, h⟩ := one_rd hl hd
        cases hv
        refine ⟨_, h.int, ⟨by omega, by omega, by omega, by omega, by omega⟩, fun q hq => ?_⟩
        obtain ⟨R', o'⟩ := R1.newOwn (rg_reps (i := 0)) hq
        refine k _ _ rfl w1 _ _ x1 R' ?_
        simpa using o'
      · cases e5
    · simp at hl
    · simp at hl
    · cases e5
theorem r_lrng2 {p2 pos2 : Pos} (hc : X.calm = true) (hg : Gl X "list") (hm : X.mg "list" = none) (hg2 : Gl X "range") (hm2 : X.mg "range" = none) (ha : PE X a (tE X.K cls W F ca)) (hb : PE X b (tE X.K cls W F cb))
    (hs : starEach [a, b] X.env = (false, eval a X.env) :: starEach [b] X.env) (hs2 : starEach [b] X.env = (false, eval b X.env) :: starEach [] X.env) (hpl : (backTo pos2 (starEach [b] X.env)).any (·.1) = false) :
    PE X (.Call (.Name "list" p) [.Call (.Name "range" p2) [a, b] [] pos2] [] pos) (tE X.K cls W F (.blt .lrng (.cons ca (.cons cb .nil)))) :=
  PEm (pe_listRg hc hg hm (prg_2 hg2 hm2 ha hb hs hs2 hpl) rfl) fun σ H Q ⟨B, L, w, s, o, hR, e, k, hx⟩ => by
    rw [evE, evAs, bd_bd] at e
    refine tE_bd hR e hx fun x s1 w1 v1 H1 x1 R1 o1 e1 hx1 => ?_
    rw [evAs, bd_bd, bd_bd] at e1
    refine tE_bd R1 e1 hx1 fun y s2 w2 v2 H2 x2 R2 o2 e1 hx2 => ?_
    have e2 : bd (looks [x, y]) (fun ds => op? (bltD .lrng ds)) s2 = some o := e1
    obtain ⟨ds, e3, hl, hd⟩ := looks_bd R2 (vs := [v1, v2]) (show OpsOk X.K w2 σ [x, y] [v1, v2] from ⟨v1, _, rfl, o1.mono x2.toGr, _, _, rfl, o2, rfl⟩) e2
    obtain ⟨r, e4, rfl⟩ := op_some e3
    have e5 : lrngD ds = some r := by
      cases ds with
      | nil => cases hl
      | cons d ds => exact e4
    unfold lrngD at e5
    split at e5
    · simp at hl
    · split at e5
      · rename_i hz
        cases e5
        obtain ⟨v, u, hv, h, h'⟩ := two_rd hl hd
        cases hv
        refine ⟨_, _, h.int, h'.int, ⟨by omega, by omega, by omega, by omega, by omega⟩, fun q hq => ?_⟩
        obtain ⟨R', o'⟩ := R2.newOwn rg_reps hq
        exact k _ _ rfl w2 _ _ (x1.trans x2) R' o'
      · cases e5
    · simp at hl
    · cases e5
/-- list(range(a, b, c)) -/
def tLst3 (ta : TA) : TE := fun σ H Q => ta σ H fun vs H1 => ∃ (i j c : Int) (n : Nat), vs = [.int i, .int j, .int c] ∧ RgC i j c n ∧ n ≤ 2 ^ 24 ∧ ∀ q, H1 q = none → Q (.ref q) (upd H1 q (.lst ((List.range n).map fun (k : Nat) => V.int (i + (k : Int) * c))))
theorem pe_listRg3 {X : Cx} {a b c : Expr} {ta : TA} {p p2 pos2 pos : Pos} (hc : X.calm = true) (hg : Gl X "list") (hm : X.mg "list" = none) (hg2 : Gl X "range") (hm2 : X.mg "range" = none) (ha : PA X [a, b, c] ta)
    (hs : starEach [a, b, c] X.env = (false, eval a X.env) :: starEach [b, c] X.env) (hpl : (backTo pos2 (starEach [b, c] X.env)).any (·.1) = false) :
    PE X (.Call (.Name "list" p) [.Call (.Name "range" p2) [a, b, c] [] pos2] [] pos) (tLst3 ta) := by
  have na : starEach [.Call (.Name "range" p2) [a, b, c] [] pos2] X.env = (false, eval (.Call (.Name "range" p2) [a, b, c] [] pos2) X.env) :: starEach [] X.env := by rfl
  refine ⟨fun pins s σ H Q I h => ?_⟩
  refine Call_ (ld_blt I hg hm boot_list (PyProof.Rows.callWith_type1 (args_cons ?_ na) na))
  refine Call_ (ld_blt I hg2 hm2 boot_range (PyProof.Rows.callWith_type1 (thn (ha.run pos2 pins s σ H _ I h) fun us s1 ⟨vs, H1, I1, r1, q1⟩ => ?_) hs hpl))
  obtain ⟨i, j, k, n, e, ⟨c0, c1, c2, c3⟩, hn, q⟩ := q1
  subst e
  cases r1 with
  | cons r rr =>
    cases rr with
    | cons r' rr =>
      cases rr with
      | cons r'' rr =>
        cases rr
        obtain ⟨t, rfl⟩ := r
        obtain ⟨t', rfl⟩ := r'
        obtain ⟨t'', rfl⟩ := r''
        refine call_range_3 c0 ?_ (.inl (PyProof.noPylong_small c1))
        have I2 : Inv X pins σ H1 { s1 with heap := s1.heap.push { cls := .type "range", data := .fields #[.int i t, .int j t', .int k t''] } } := I1.kept (t' := s1.toks) fun b o e => Heap.get?_push_of_some _ e
        refine args_nil ?_
        refine call_list_range (n := n) (I2.ok.hd hc) (IsRange.new ..) c2 c3 hn fun h' tk acc c' hk e' hi => ?_
        refine ⟨.ref _, upd H1 _ _, I2.laid hk (Nat.le_refl _) (show ObjOk X.prog X.w _ _ _ (.lst ((List.range n).map fun (k' : Nat) => V.int (i + (k' : Int) * k))) from ⟨?_, acc.toList, c', ?_, ?_⟩), rfl, q _ (I2.hok.fresh (Nat.le_refl _))⟩
        · rw [List.length_map, List.length_range, sizeLine_eq]; omega
        · have el : acc.toList.length = n := by rw [Array.length_toList]; exact hi.1
          rw [← el]
          refine vals_of_get acc.toList _ fun j' u hj => ?_
          obtain ⟨t0, rfl⟩ := hi.2 j' u (by rw [← hj, Array.getElem?_toList])
          exact ⟨t0, rfl⟩
        · rw [Array.toArray_toList]; exact e'
theorem r_lrng3 {c : Expr} {cc : Ex} {p2 pos2 : Pos} (hcm : X.calm = true) (hg : Gl X "list") (hm : X.mg "list" = none) (hg2 : Gl X "range") (hm2 : X.mg "range" = none) (ha : PE X a (tE X.K cls W F ca)) (hb : PE X b (tE X.K cls W F cb)) (hc : PE X c (tE X.K cls W F cc))
    (hs : starEach [a, b, c] X.env = (false, eval a X.env) :: starEach [b, c] X.env) (hs2 : starEach [b, c] X.env = (false, eval b X.env) :: starEach [c] X.env) (hs3 : starEach [c] X.env = (false, eval c X.env) :: starEach [] X.env) (hpl : (backTo pos2 (starEach [b, c] X.env)).any (·.1) = false) :
    PE X (.Call (.Name "list" p) [.Call (.Name "range" p2) [a, b, c] [] pos2] [] pos) (tE X.K cls W F (.blt .lrng (.cons ca (.cons cb (.cons cc .nil))))) :=
  PEm (pe_listRg3 hcm hg hm hg2 hm2 (pa_cons ha (pa_cons hb (pa_cons hc pa_nil hs3) hs2) hs) hs hpl) fun σ H Q ⟨B, L, w, s, o, hR, e, k, hx⟩ => by
    rw [evE, evAs, evAs, evAs, evAs, bd_bd] at e
    refine tE_bd hR e hx fun x s1 w1 v1 H1 x1 R1 o1 e1 hx1 => ?_
    rw [bd_bd, bd_bd] at e1
    refine tE_bd R1 e1 hx1 fun y s2 w2 v2 H2 x2 R2 o2 e2 hx2 => ?_
    rw [bd_bd, bd_bd] at e2
    refine tE_bd R2 e2 hx2 fun z s3 w3 v3 H3 x3 R3 o3 e3 hx3 => ?_
    have e3' : bd (looks [x, y, z]) (fun ds => op? (bltD .lrng ds)) s3 = some o := e3
    obtain ⟨ds, e4, hl, hd⟩ := looks_bd R3 (show OpsOk X.K w3 σ [x, y, z] [v1, v2, v3] from ⟨v1, [v2, v3], rfl, o1.mono (x2.trans x3).toGr, v2, [v3], rfl, o2.mono x3.toGr, v3, [], rfl, o3, rfl⟩) e3'
    obtain ⟨r, e5, rfl⟩ := op_some e4
    match ds, hl with
    | [d, d', d''], _ =>
      have h1 := hd 0 d v1 rfl rfl
      have h2 := hd 1 d' v2 rfl rfl
      have h3 := hd 2 d'' v3 rfl rfl
      have e6 : lrngD [d, d', d''] = some r := e5
      unfold lrngD at e6
      split at e6
      · rename_i h0; cases h0
      · rename_i h0; cases h0
      · rename_i i j q h0
        cases h0
        split at e6
        · rename_i hz
          cases e6
          obtain ⟨rfl, hz1, hz2, hz3, hz4⟩ := hz
          refine ⟨_, _, -1, _, by rw [h1.int, h2.int, h3.int], RgC.neg hz1.1 hz1.2 hz2 hz3, by omega, fun q hq => ?_⟩
          have rp : Reps X.K w3 ((List.range (i - j).toNat).map fun (k : Nat) => D.int (i - (k : Int))) ((List.range (i - j).toNat).map fun (k : Nat) => V.int (i + (k : Int) * -1)) := .of (by simp) fun m d v g1 g2 => by
            rw [List.getElem?_map] at g1 g2
            cases hm : (List.range (i - j).toNat)[m]? with
            | none => rw [hm] at g1; cases g1
            | some u =>
              rw [hm] at g1 g2
              cases g1
              cases g2
              show Rep X.K w3 (.int (i - (u : Int))) (.int (i + (u : Int) * -1))
              rw [show i + (u : Int) * -1 = i - (u : Int) by omega]
              exact rep_int
          obtain ⟨R', o'⟩ := R3.newOwn rp hq
          exact k _ _ rfl w3 _ _ (x1.trans (x2.trans x3)) R' o'
        · cases e6
      · cases e6
theorem r_dnew : PE X (.Dict [] [] pos) (tE X.K cls W F .dnew) :=
  PEm pe_dnewK fun σ H Q ⟨B, L, w, s, o, hR, e, k, hx⟩ => by
    rw [evE] at e
    cases e
    intro q hq
    obtain ⟨f1, f2, f3⟩ := hR.freshNot hq
    exact k _ _ rfl w _ _ Ext.refl (hR.beside hq) ⟨q, rfl, f1, f2, f3, upd_same, fun i d' e => hR.freshNotOw hq i d' e⟩
end
/-! ### locks -/
section
variable {K : PySem.W.Frag} {B : Hp} {L : Nat → Option Addr} {w : Wr} {s : Sx} {σ : L2.St} {H : Hp}
theorem setK_some {i : Nat} {k : Kd} {sl : Sl} (h : s.e[i]? = some (some sl)) : setK i k s = { s with e := s.e.set i (some ⟨k, sl.d⟩) } := by
  unfold setK; rw [h]
/-- what a lock gives -/
structure Lkd (K : PySem.W.Frag) (B : Hp) (L : Nat → Option Addr) (w : Wr) (s : Sx) (σ : L2.St) (H : Hp) (lo un : Sx → Sx) (B' : Hp) (L' : Nat → Option Addr) : Prop where
  rel : Rel K B' L' w (lo s) σ H
  sub : ∀ a, B a ≠ none → B' a = B a
  back : ∀ w2 s2 σ2 H2, Ext B' w w2 → Rel K B' L' w2 s2 σ2 H2 → Ext B w w2 ∧ Rel K B L w2 (un s2) σ2 H2
theorem lock_one (r : Rel K B L w s σ H) {i : Nat} {d : D} (hi : s.e[i]? = some (some ⟨.ow, d⟩)) : ∃ a B' L', σ[i]? = some (some (.ref a)) ∧ B' a = H a ∧ Own K w H a d ∧ (∀ j, j ≠ i → L' j = L j) ∧ Lkd K B L w s σ H (setK i .lk) (setK i .ow) B' L' := by
  obtain ⟨a, q1, q2, q3, q4, q5⟩ := r.ow i d hi
  obtain ⟨o, ho⟩ := q5.there
  have hil : i < s.e.length := (List.getElem?_eq_some_iff.mp hi).1
  have es : setK i .lk s = { s with e := s.e.set i (some ⟨.lk, d⟩) } := setK_some hi
  have self : ∀ {k : Kd} {e : List (Option Sl)} {y}, i < e.length → (e.set i (some ⟨k, d⟩))[i]? = some y → y = some ⟨k, d⟩ := fun {k e y} h0 h => by rw [List.getElem?_set_self h0] at h; exact (Option.some.inj h).symm
  have bne : ∀ b, B b ≠ none → b ≠ a := fun b h z => h (by rw [z]; exact q3)
  have cne : ∀ b, b ∈ w.ca → b ≠ a := fun b h z => q4 (by rw [← z]; exact h)
  have lNone : ∀ b, L i = some b → False := fun b h => by
    obtain ⟨d', z⟩ := r.lk' i b h
    rw [hi] at z; cases z
  refine ⟨a, upd B a o, fun j => if j = i then some a else L j, q1, by rw [upd_same, ho], q5, fun j h => if_neg h, ?_, fun b h => upd_ne (bne b h), fun w2 s2 σ2 H2 ex r2 => ?_⟩
  · rw [es]
    refine ⟨r.gh, fun b u h => ?_, by simpa using r.len, fun j x h => ?_, fun j x h => ?_, fun j x h => ?_, fun j b h => ?_, fun j l x y b h1 h2 p1 p2 => ?_, r.cn, r.cl, fun b h => ⟨(r.cf b h).1, by rw [upd_ne (cne b h)]; exact (r.cf b h).2⟩, r.clen⟩
    · by_cases z : b = a
      · subst z
        rw [upd_same] at h; cases h; exact ho
      · rw [upd_ne z] at h; exact r.bh b u h
    · by_cases z : j = i
      · subst z; cases self hil h
      · exact r.sh j x (by have h' : (s.e.set i _)[j]? = _ := h; rw [List.getElem?_set_ne (Ne.symm z)] at h'; exact h')
    · by_cases z : j = i
      · subst z; cases self hil h
      · have h' : (s.e.set i _)[j]? = _ := h
        rw [List.getElem?_set_ne (Ne.symm z)] at h'
        obtain ⟨b, p1, p2, p3, p4, p5⟩ := r.ow j x h'
        refine ⟨b, p1, p2, ?_, p4, p5⟩
        rw [upd_ne (fun y => z (r.inj j i _ _ b h' hi p1 (by rw [y]; exact q1)))]
        exact p3
    · by_cases z : j = i
      · subst z
        cases self hil h
        exact ⟨a, q1, q2, by rw [upd_same]; exact fun z => (nomatch z), if_pos rfl, q5⟩
      · have h' : (s.e.set i _)[j]? = _ := h
        rw [List.getElem?_set_ne (Ne.symm z)] at h'
        obtain ⟨b, p1, p2, p3, p4, p5⟩ := r.lk j x h'
        exact ⟨b, p1, p2, by rw [upd_ne (bne b p3)]; exact p3, by rw [if_neg z]; exact p4, p5⟩
    · by_cases z : j = i
      · subst z
        exact ⟨d, by show (s.e.set j _)[j]? = _; rw [List.getElem?_set_self hil]⟩
      · have h' : (if j = i then some a else L j) = some b := h
        rw [if_neg z] at h'
        obtain ⟨x, q⟩ := r.lk' j b h'
        exact ⟨x, by show (s.e.set i _)[j]? = _; rw [List.getElem?_set_ne (Ne.symm z)]; exact q⟩
    · have zj : j ≠ i := fun z => by subst z; cases self hil h1
      have zl : l ≠ i := fun z => by subst z; cases self hil h2
      have h1' : (s.e.set i _)[j]? = _ := h1
      have h2' : (s.e.set i _)[l]? = _ := h2
      rw [List.getElem?_set_ne (Ne.symm zj)] at h1'
      rw [List.getElem?_set_ne (Ne.symm zl)] at h2'
      exact r.inj j l x y b h1' h2' p1 p2
  · obtain ⟨d2, z2⟩ := r2.lk' i a (if_pos rfl)
    obtain ⟨a2, p1, p2, p3, p4, p5⟩ := r2.lk i d2 z2
    have e2 : a2 = a := by
      have p4' : (if i = i then some a else L i) = some a2 := p4
      rw [if_pos rfl] at p4'
      exact (Option.some.inj p4').symm
    subst e2
    have ext : Ext B w w2 := ex.sub fun b h => by rw [upd_ne (bne b h)]; exact h
    refine ⟨ext, ?_⟩
    have es2 : setK i .ow s2 = { s2 with e := s2.e.set i (some ⟨.ow, d2⟩) } := setK_some z2
    have hil2 : i < s2.e.length := (List.getElem?_eq_some_iff.mp z2).1
    have notc : ∀ {b}, b ∈ w2.ca → b ≠ a2 := fun {b} h z => p3 (by have q := (r2.cf b h).2; rw [z] at q; exact q)
    rw [es2]
    refine ⟨r2.gh, fun b u h => r2.bh b u (by rw [upd_ne (bne b (by rw [h]; exact fun z => nomatch z))]; exact h), by simpa using r2.len, fun j x h => ?_, fun j x h => ?_, fun j x h => ?_, fun j b h => ?_, fun j l x y b h1 h2 g1 g2 => ?_, r2.cn, r2.cl, fun b h => ⟨(r2.cf b h).1, ?_⟩, r2.clen⟩
    · have h' : (s2.e.set i _)[j]? = _ := h
      by_cases z : j = i
      · subst z; rw [List.getElem?_set_self hil2] at h'; cases h'
      · rw [List.getElem?_set_ne (Ne.symm z)] at h'; exact r2.sh j x h'
    · have h' : (s2.e.set i _)[j]? = _ := h
      by_cases z : j = i
      · subst z
        rw [List.getElem?_set_self hil2] at h'
        cases h'
        exact ⟨a2, p1, p2, q3, fun y => notc y rfl, p5⟩
      · rw [List.getElem?_set_ne (Ne.symm z)] at h'
        obtain ⟨b, g1, g2, g3, g4, g5⟩ := r2.ow j x h'
        refine ⟨b, g1, g2, ?_, g4, g5⟩
        by_cases y : b = a2
        · rw [y]; exact q3
        · rw [upd_ne y] at g3; exact g3
    · have h' : (s2.e.set i _)[j]? = _ := h
      by_cases z : j = i
      · subst z; rw [List.getElem?_set_self hil2] at h'; cases h'
      · rw [List.getElem?_set_ne (Ne.symm z)] at h'
        obtain ⟨b, g1, g2, g3, g4, g5⟩ := r2.lk j x h'
        have g4' : (if j = i then some a2 else L j) = some b := g4
        rw [if_neg z] at g4'
        obtain ⟨x0, y0⟩ := r.lk' j b g4'
        obtain ⟨b0, m1, m2, m3, m4, m5⟩ := r.lk j x0 y0
        rw [g4'] at m4
        cases m4
        exact ⟨b, g1, g2, m3, g4', g5⟩
    · have z : j ≠ i := fun z => by subst z; exact lNone b h
      obtain ⟨x, q⟩ := r2.lk' j b (show (if j = i then some a2 else L j) = some b by rw [if_neg z]; exact h)
      exact ⟨x, by show (s2.e.set i _)[j]? = _; rw [List.getElem?_set_ne (Ne.symm z)]; exact q⟩
    · have h1' : (s2.e.set i _)[j]? = _ := h1
      have h2' : (s2.e.set i _)[l]? = _ := h2
      have no : ∀ (m : Nat) z, m ≠ i → s2.e[m]? = some (some ⟨.ow, z⟩) → σ2[m]? = some (some (.ref a2)) → False := fun m z hm hz hq => by
        obtain ⟨b, g1, g2, g3, g4, g5⟩ := r2.ow m z hz
        rw [hq] at g1
        cases g1
        rw [upd_same] at g3; cases g3
      by_cases zj : j = i
      · by_cases zl : l = i
        · rw [zj, zl]
        · subst zj
          rw [p1] at g1
          cases g1
          rw [List.getElem?_set_ne (Ne.symm zl)] at h2'
          exact (no l y zl h2' g2).elim
      · rw [List.getElem?_set_ne (Ne.symm zj)] at h1'
        by_cases zl : l = i
        · subst zl
          rw [p1] at g2
          cases g2
          exact (no j x zj h1' g1).elim
        · rw [List.getElem?_set_ne (Ne.symm zl)] at h2'
          exact r2.inj j l x y b h1' h2' g1 g2
    · have := (r2.cf b h).2
      rw [upd_ne (notc h)] at this
      exact this
theorem lock_none (r : Rel K B L w s σ H) : Lkd K B L w s σ H (fun s => s) (fun s => s) B L := ⟨r, fun _ _ => rfl, fun _ _ _ _ ex r2 => ⟨ex, r2⟩⟩
theorem lock_two {lo un lo' un' : Sx → Sx} {B' B'' : Hp} {L' L'' : Nat → Option Addr} (a : Lkd K B L w s σ H lo un B' L') (b : Lkd K B' L' w (lo s) σ H lo' un' B'' L'') (h : ∀ x, B x ≠ none → B' x ≠ none) : Lkd K B L w s σ H (fun s => lo' (lo s)) (fun s => un (un' s)) B'' L'' :=
  ⟨b.rel, fun x hx => (b.sub x (h x hx)).trans (a.sub x hx), fun w2 s2 σ2 H2 ex r2 => by
    obtain ⟨e1, r1⟩ := b.back w2 s2 σ2 H2 ex r2
    exact a.back w2 _ σ2 H2 e1 r1⟩
theorem Lkd.ne {lo un : Sx → Sx} {B' : Hp} {L' : Nat → Option Addr} (a : Lkd K B L w s σ H lo un B' L') : ∀ x, B x ≠ none → B' x ≠ none := fun x h => by rw [a.sub x h]; exact h
end
end PV
set_option maxHeartbeats 4000000
/-! What a loop walks. -/
namespace PV
open PySem PySem.Spec PyProof.Rows L2
theorem PIm {X : Cx} {tg e : Expr} {t t' : TI} (h : PI X tg e t) (f : ∀ σ H R, t' σ H R → t σ H R) : PI X tg e t' := ⟨fun pins s σ H R I q => h.run pins s σ H R I (f σ H R q)⟩
theorem PIor {X : Cx} {tg e : Expr} {t t' : TI} (h : PI X tg e t) (h' : PI X tg e t') : PI X tg e (fun σ H R => t σ H R ∨ t' σ H R) := ⟨fun pins s σ H R I q => q.elim (h.run pins s σ H R I) (h'.run pins s σ H R I)⟩
/-- the iterator J walks the items ds, while B stands -/
def Walk (K : PySem.W.Frag) (B : Hp) (w : Wr) (J : It) (ds : List D) : Prop := ∀ B2 L2 w2 s2 σ2 H2, (∀ a, B a ≠ none → B2 a = B a) → Ext B2 w w2 → Rel K B2 L2 w2 s2 σ2 H2 → ∀ i : Nat,
  (∀ d, ds[i]? = some d → J.go i H2 ∧ ∀ x H3, J.yld i H2 x H3 → ∃ w3, Ext B2 w2 w3 ∧ Rel K B2 L2 w3 s2 σ2 H3 ∧ Rep K w3 d x) ∧ (ds[i]? = none → J.stop i H2)
/-- .. while the list with an identity that is walked stays as it is -/
def WalkG (K : PySem.W.Frag) (B : Hp) (w : Wr) (J : It) (ls : List Nat) (ds : List D) : Prop := ∀ B2 L2 w2 s2 σ2 H2, (∀ a, B a ≠ none → B2 a = B a) → Ext B2 w w2 → Rel K B2 L2 w2 s2 σ2 H2 → GdOk ls ds s2 → ∀ i : Nat,
  (∀ d, ds[i]? = some d → J.go i H2 ∧ ∀ x H3, J.yld i H2 x H3 → ∃ w3, Ext B2 w2 w3 ∧ Rel K B2 L2 w3 s2 σ2 H3 ∧ Rep K w3 d x) ∧ (ds[i]? = none → J.stop i H2)
theorem Walk.g {K : PySem.W.Frag} {B : Hp} {w : Wr} {J : It} {ls : List Nat} {ds : List D} (h : Walk K B w J ds) : WalkG K B w J ls ds := fun B2 L2 w2 s2 σ2 H2 bb ex r _ => h B2 L2 w2 s2 σ2 H2 bb ex r
/-- a list that stands still -/
def StL (K : PySem.W.Frag) (B : Hp) (w : Wr) (a : Addr) (vs : List V) : Prop := ∀ B2 L2 w2 s2 σ2 H2, (∀ a, B a ≠ none → B2 a = B a) → Ext B2 w w2 → Rel K B2 L2 w2 s2 σ2 H2 → SqL K H2 a vs
def StT (K : PySem.W.Frag) (B : Hp) (w : Wr) (a : Addr) (vs : List V) : Prop := ∀ B2 L2 w2 s2 σ2 H2, (∀ a, B a ≠ none → B2 a = B a) → Ext B2 w w2 → Rel K B2 L2 w2 s2 σ2 H2 → SqT K H2 a vs
section
variable {K : PySem.W.Frag} {cls : Str → Value} {W : WX} {B : Hp} {L : Nat → Option Addr} {w w' : Wr} {s s' : Sx} {σ : L2.St} {H H' : Hp}
theorem walk_list {a : Addr} {vs : List V} {ds : List D} (st : StL K B w a vs) (h : Reps K w ds vs) : Walk K B w (Itl K a) ds := fun B2 L2 w2 s2 σ2 H2 bb ex r i => by
  have q := st B2 L2 w2 s2 σ2 H2 bb ex r
  refine ⟨fun d e => ?_, fun e => ⟨vs, q, by rw [h.len]; exact List.getElem?_eq_none_iff.mp e⟩⟩
  obtain ⟨v, e1, rp⟩ := h.get e
  refine ⟨⟨vs, v, q, e1⟩, fun x H3 y => ?_⟩
  obtain ⟨rfl, y⟩ := y
  have e2 := y vs q
  rw [e1] at e2
  cases e2
  exact ⟨w2, Ext.refl, r, rp.mono ex.toGr⟩
theorem walk_cel {a : Addr} {n : Nat} {ds : List D} (h : w.ca[n]? = some a) : WalkG K B w (Itl K a) [1000000 + n] ds := fun B2 L2 w2 s2 σ2 H2 bb ex r gd i => by
  obtain ⟨a', vs, e0, q0, hr⟩ := r.cl n ds (gd n (List.mem_singleton.mpr rfl))
  rw [ex.toGr.cell h] at e0
  cases e0
  have q := SqL.of (K := K) q0
  refine ⟨fun d e => ?_, fun e => ⟨vs, q, by rw [hr.len]; exact List.getElem?_eq_none_iff.mp e⟩⟩
  obtain ⟨v, e1, rp⟩ := hr.get e
  refine ⟨⟨vs, v, q, e1⟩, fun x H3 y => ?_⟩
  obtain ⟨rfl, y⟩ := y
  have e2 := y vs q
  rw [e1] at e2
  cases e2
  exact ⟨w2, Ext.refl, r, rp⟩
theorem walk_str {x : Str} : Walk K B w (Its x) (x.cps.toList.map fun c => D.str ⟨#[c]⟩) := fun B2 L2 w2 s2 σ2 H2 bb ex r i => by
  refine ⟨fun d e => ?_, fun e => ?_⟩
  · rw [List.getElem?_map, Array.getElem?_toList] at e
    cases hc : x.cps[i]? with
    | none => rw [hc] at e; cases e
    | some c =>
      rw [hc] at e
      cases e
      refine ⟨(Array.getElem?_eq_some_iff.mp hc).1, fun v H3 y => ?_⟩
      obtain ⟨rfl, c', e', rfl⟩ := y
      rw [hc] at e'
      cases e'
      exact ⟨w2, Ext.refl, r, rep_str⟩
  · have e' := List.getElem?_eq_none_iff.mp e
    rw [List.length_map, Array.length_toList] at e'
    exact e'
theorem walk_tup {a : Addr} {vs : List V} {ds : List D} (st : StT K B w a vs) (h : Reps K w ds vs) : Walk K B w (Itt K a) ds := fun B2 L2 w2 s2 σ2 H2 bb ex r i => by
  have q := st B2 L2 w2 s2 σ2 H2 bb ex r
  refine ⟨fun d e => ?_, fun e => ⟨vs, q, by rw [h.len]; exact List.getElem?_eq_none_iff.mp e⟩⟩
  obtain ⟨v, e1, rp⟩ := h.get e
  refine ⟨⟨vs, v, q, e1⟩, fun x H3 y => ?_⟩
  obtain ⟨rfl, y⟩ := y
  have e2 := y vs q
  rw [e1] at e2
  cases e2
  exact ⟨w2, Ext.refl, r, rp.mono ex.toGr⟩
theorem walk_rng {lo : Int} {n : Nat} : Walk K B w (Itr lo n) ((List.range n).map fun (k : Nat) => D.int (lo + (k : Int))) := fun B2 L2 w2 s2 σ2 H2 bb ex r i => by
  refine ⟨fun d e => ?_, fun e => ?_⟩
  · rw [List.getElem?_map] at e
    have hi : i < n := by
      by_cases hi : i < n
      · exact hi
      · rw [List.getElem?_eq_none (by simpa using hi)] at e; cases e
    rw [List.getElem?_range hi] at e
    cases e
    refine ⟨hi, fun x H3 y => ?_⟩
    obtain ⟨rfl, rfl⟩ := y
    exact ⟨w2, Ext.refl, r, rep_int⟩
  · have e' := List.getElem?_eq_none_iff.mp e
    rw [List.length_map, List.length_range] at e'
    exact e'
theorem enumD_get : ∀ {ds : List D} {k i : Nat}, (enumD k ds)[i]? = ds[i]?.map fun d => D.tup [.int ((k + i : Nat) : Int), d]
  | [], k, i => by simp [enumD]
  | d :: ds, k, 0 => by simp [enumD]
  | d :: ds, k, i + 1 => by
    rw [enumD, List.getElem?_cons_succ, List.getElem?_cons_succ, enumD_get]
    rw [show k + 1 + i = k + (i + 1) by omega]
theorem walk_enum {a : Addr} {vs : List V} {ds : List D} (st : StL K B w a vs) (h : Reps K w ds vs) : Walk K B w (Ite K a) (enumD 0 ds) := fun B2 L2 w2 s2 σ2 H2 bb ex r i => by
  have q := st B2 L2 w2 s2 σ2 H2 bb ex r
  rw [enumD_get]
  refine ⟨fun d e => ?_, fun e => ⟨vs, q, ?_⟩⟩
  · cases e0 : ds[i]? with
    | none => rw [e0] at e; cases e
    | some d0 =>
      rw [e0] at e
      cases e
      obtain ⟨v, e1, rp⟩ := h.get e0
      refine ⟨⟨vs, v, q, e1⟩, fun x H3 y => ?_⟩
      obtain ⟨T, x0, rfl, hT, rfl, y⟩ := y
      have e2 := y vs q
      rw [e1] at e2
      cases e2
      obtain ⟨w3, x3, R3, rp3⟩ := r.newTup (Reps.cons (rep_int (i := (i : Int))) (Reps.one (rp.mono ex.toGr))) hT
      rw [Nat.zero_add]
      exact ⟨w3, x3, R3, rp3⟩
  · rw [h.len]
    cases e0 : ds[i]? with
    | none => exact List.getElem?_eq_none_iff.mp e0
    | some d0 => rw [e0] at e; cases e
theorem zipD_get : ∀ {ds es : List D} {i : Nat}, (zipD ds es)[i]? = match ds[i]?, es[i]? with
    | some d, some e => some (.tup [d, e])
    | _, _ => none
  | [], es, i => by simp [zipD]
  | d :: ds, [], i => by
    simp only [zipD, List.getElem?_nil]
    split
    · rename_i h1; cases h1
    · rfl
  | d :: ds, e :: es, 0 => by simp [zipD]
  | d :: ds, e :: es, i + 1 => by
    rw [zipD, List.getElem?_cons_succ, List.getElem?_cons_succ, List.getElem?_cons_succ, zipD_get]
theorem walk_zip {a b : Addr} {vs us : List V} {ds es : List D} (st : StL K B w a vs) (st' : StL K B w b us) (h : Reps K w ds vs) (h' : Reps K w es us) : Walk K B w (Itz K a b) (zipD ds es) := fun B2 L2 w2 s2 σ2 H2 bb ex r i => by
  have q := st B2 L2 w2 s2 σ2 H2 bb ex r
  have q' := st' B2 L2 w2 s2 σ2 H2 bb ex r
  rw [zipD_get]
  refine ⟨fun d e => ?_, fun e => ⟨vs, us, q, q', ?_⟩⟩
  · cases e0 : ds[i]? with
    | none => rw [e0] at e; cases e
    | some d0 =>
      cases e0' : es[i]? with
      | none => rw [e0, e0'] at e; cases e
      | some d1 =>
        rw [e0, e0'] at e
        cases e
        obtain ⟨v, e1, rp⟩ := h.get e0
        obtain ⟨u, e1', rp'⟩ := h'.get e0'
        refine ⟨⟨vs, us, v, u, q, q', e1, e1'⟩, fun x H3 y => ?_⟩
        obtain ⟨T, x0, y0, rfl, hT, rfl, y, y'⟩ := y
        have e2 := y vs q
        rw [e1] at e2
        cases e2
        have e2' := y' us q'
        rw [e1'] at e2'
        cases e2'
        obtain ⟨w3, x3, R3, rp3⟩ := r.newTup (Reps.cons (rp.mono ex.toGr) (Reps.one (rp'.mono ex.toGr))) hT
        exact ⟨w3, x3, R3, rp3⟩
  · rw [h.len, h'.len]
    cases e0 : ds[i]? with
    | none => exact .inl (List.getElem?_eq_none_iff.mp e0)
    | some d0 =>
      cases e0' : es[i]? with
      | none => exact .inr (List.getElem?_eq_none_iff.mp e0')
      | some d1 => rw [e0, e0'] at e; cases e
theorem walk_zipT {a b : Addr} {vs us : List V} {ds es : List D} (st : StT K B w a vs) (st' : StT K B w b us) (h : Reps K w ds vs) (h' : Reps K w es us) : Walk K B w (RZ.ItzT K a b) (zipD ds es) := fun B2 L2 w2 s2 σ2 H2 bb ex r i => by
  have q := st B2 L2 w2 s2 σ2 H2 bb ex r
  have q' := st' B2 L2 w2 s2 σ2 H2 bb ex r
  rw [zipD_get]
  refine ⟨fun d e => ?_, fun e => ⟨vs, us, q, q', ?_⟩⟩
  · cases e0 : ds[i]? with
    | none => rw [e0] at e; cases e
    | some d0 =>
      cases e0' : es[i]? with
      | none => rw [e0, e0'] at e; cases e
      | some d1 =>
        rw [e0, e0'] at e
        cases e
        obtain ⟨v, e1, rp⟩ := h.get e0
        obtain ⟨u, e1', rp'⟩ := h'.get e0'
        refine ⟨⟨vs, us, v, u, q, q', e1, e1'⟩, fun x H3 y => ?_⟩
        obtain ⟨T, x0, y0, rfl, hT, rfl, y, y'⟩ := y
        have e2 := y vs q
        rw [e1] at e2
        cases e2
        have e2' := y' us q'
        rw [e1'] at e2'
        cases e2'
        obtain ⟨w3, x3, R3, rp3⟩ := r.newTup (Reps.cons (rp.mono ex.toGr) (Reps.one (rp'.mono ex.toGr))) hT
        exact ⟨w3, x3, R3, rp3⟩
  · rw [h.len, h'.len]
    cases e0 : ds[i]? with
    | none => exact .inl (List.getElem?_eq_none_iff.mp e0)
    | some d0 =>
      cases e0' : es[i]? with
      | none => exact .inr (List.getElem?_eq_none_iff.mp e0')
      | some d1 => rw [e0, e0'] at e; cases e
/-- what is walked, locked -/
def Srcs (K : PySem.W.Frag) (B : Hp) (L : Nat → Option Addr) (w : Wr) (s : Sx) (σ : L2.St) (H : Hp) (J : It) (ds : List D) (ls : List Nat) : Prop := ∃ B' L', Lkd K B L w s σ H (lock ls) (unlock ls) B' L' ∧ WalkG K B' w J ls ds ∧ GdOk ls ds s
theorem lkd0 (r : Rel K B L w s σ H) : Lkd K B L w s σ H (lock []) (unlock []) B L := lock_none r
theorem lkdC (r : Rel K B L w s σ H) {n : Nat} : Lkd K B L w s σ H (lock [1000000 + n]) (unlock [1000000 + n]) B L := by
  have e1 : lock [1000000 + n] = fun s => s := funext fun s => if_neg (by omega)
  have e2 : unlock [1000000 + n] = fun s => s := funext fun s => if_neg (by omega)
  rw [e1, e2]
  exact lock_none r
theorem gd_nil {ds : List D} {s : Sx} : GdOk [] ds s := fun n h => nomatch h
theorem gd_lk {ds : List D} {s : Sx} {x : R} (h : plainR s x = true) : GdOk (lkOf s x) ds s := by
  have key : ∀ i : Nat, (match s.e[i]? with
      | some (some ⟨_, .cel _⟩) => false
      | _ => decide (i < 1000000)) = true → GdOk (lkOf s (.nm i)) ds s := fun i h n hn => by
    have hi : i < 1000000 := by
      split at h
      · cases h
      · exact of_decide_eq_true h
    unfold lkOf at hn
    dsimp only at hn
    split at hn
    · split at hn
      · have := List.mem_singleton.mp hn
        omega
      · cases hn
    · cases hn
  cases x with
  | nm i => exact key i h
  | _ => exact gd_nil
theorem setK_c {i : Nat} {k : Kd} {s : Sx} : (setK i k s).c = s.c := by
  unfold setK
  split <;> rfl
theorem lock_c : ∀ {ls : List Nat} {s : Sx}, (lock ls s).c = s.c
  | [], s => rfl
  | i :: ls, s => by
    show (if i < 1000000 then setK i .lk (lock ls s) else lock ls s).c = s.c
    split
    · rw [setK_c]; exact lock_c
    · exact lock_c
theorem gd_c {ls : List Nat} {ds : List D} {s s' : Sx} (h : s'.c = s.c) (g : GdOk ls ds s) : GdOk ls ds s' := fun n hn => by rw [h]; exact g n hn
theorem lkd1 {i : Nat} (hi : i < 1000000) : lock [i] = setK i .lk ∧ unlock [i] = setK i .ow := ⟨funext fun s => if_pos hi, funext fun s => if_pos hi⟩
/-- without lists with an identity -/
def look0 (s : Sx) : R → Option D
  | .sh d => some d
  | .fr (.lst ds) => some (.lst ds)
  | .fr _ => none
  | .nm i => match s.e[i]? with
    | some (some sl) => some sl.d
    | _ => none
theorem der_eq {c : List (List D)} {d d' : D} (h : ∀ n, d ≠ .cel n) (e : der c d = some d') : d = d' := by
  cases d with
  | cel n => exact absurd rfl (h n)
  | _ => cases e; rfl
theorem look0_plain {x : R} {d : D} (h : plainR s x = true) (l : look s x = some d) : look0 s x = some d := by
  cases x with
  | sh d' =>
    have l' : der s.c d' = some d := l
    exact congrArg some (der_eq (fun n z => by rw [z] at h; cases h) l')
  | fr d' => cases d' <;> exact l
  | nm i =>
    have l' : (match s.e[i]? with
      | some (some sl) => der s.c sl.d
      | _ => none) = some d := l
    have h' : (match s.e[i]? with
      | some (some ⟨_, .cel _⟩) => false
      | _ => decide (i < 1000000)) = true := h
    show (match s.e[i]? with
      | some (some sl) => some sl.d
      | _ => none) = some d
    split at l'
    · rename_i sl e
      rw [e] at h'
      exact congrArg some (der_eq (fun n z => by
        obtain ⟨k, d0⟩ := sl
        cases z
        cases h') l')
    · cases l'
theorem look0_tup {x : R} {ds : List D} (l : look s x = some (.tup ds)) : look0 s x = some (.tup ds) := by
  have z : ∀ {d : D}, der s.c d = some (.tup ds) → d = .tup ds := fun {d} e => by
    cases d with
    | cel n =>
      have e : (match s.c[n]? with
        | some ds => some (D.lst ds)
        | none => none) = some (.tup ds) := e
      split at e <;> cases e
    | _ => first | (cases e; done) | (cases e; rfl)
  cases x with
  | sh d' => exact congrArg some (z l)
  | fr d' => cases d' <;> exact l
  | nm i =>
    have l' : (match s.e[i]? with
      | some (some sl) => der s.c sl.d
      | _ => none) = some (.tup ds) := l
    show (match s.e[i]? with
      | some (some sl) => some sl.d
      | _ => none) = some (.tup ds)
    split at l'
    · rename_i sl e
      exact congrArg some (z l')
    · cases l'
theorem src_list (r : Rel K B L w s σ H) {x : R} {v : V} {d : D} {ds : List D} (hp : plainR s x = true) (l : look0 s x = some d) (e : lstOf d = some ds) (o : OpOk K w σ x v) :
    ∃ a, v = .ref a ∧ (∃ xs, SqL K H a xs) ∧ ∃ B' L' vs, Lkd K B L w s σ H (lock (lkOf s x)) (unlock (lkOf s x)) B' L' ∧ Reps K w ds vs ∧ StL K B' w a vs ∧ (lkOf s x = [] → B' = B) := by
  have shared : ∀ {B : Hp}, Rep K w d v → ∃ a vs, v = .ref a ∧ SqL K w.G a vs ∧ Reps K w ds vs ∧ StL K B w a vs := fun {B} h => by
    cases d with
    | lst ds' =>
      cases e
      unfold Rep at h
      obtain ⟨a, vs, e, h1, h2⟩ := h
      exact ⟨a, vs, e, SqL.of h1, h2, fun B2 L2 w2 s2 σ2 H2 bb ex r2 => SqL.of (r2.gh _ _ (ex.g _ _ h1))⟩
    | fl ds' =>
      cases e
      unfold Rep at h
      obtain ⟨a, vs, e, h1, h2⟩ := h
      exact ⟨a, vs, e, h1, h2, fun B2 L2 w2 s2 σ2 H2 bb ex r2 => sqL_mono (fun a o h => r2.gh _ _ (ex.g _ _ h)) h1⟩
    | _ => cases e
  have done : Rep K w d v → lkOf s x = [] → ∃ a, v = .ref a ∧ (∃ xs, SqL K H a xs) ∧ ∃ B' L' vs, Lkd K B L w s σ H (lock (lkOf s x)) (unlock (lkOf s x)) B' L' ∧ Reps K w ds vs ∧ StL K B' w a vs ∧ (lkOf s x = [] → B' = B) := fun h e0 => by
    obtain ⟨a, vs, ea, h1, h2, h3⟩ := shared (B := B) h
    rw [e0]
    exact ⟨a, ea, ⟨vs, sqL_mono r.gh h1⟩, B, L, vs, lkd0 r, h2, h3, fun _ => rfl⟩
  cases x with
  | sh d' => cases l; exact done o rfl
  | fr d' =>
    cases d' with
    | lst _ => cases l; exact done o rfl
    | _ => cases l
  | nm i =>
    have o' : σ[i]? = some (some v) := o
    unfold look0 at l
    split at l
    · rename_i z; cases z
    · rename_i z; cases z
    · rename_i z; cases z
    · rename_i j z
      cases z
      split at l
      · rename_i sl hs
        cases l
        obtain ⟨k, d⟩ := sl
        cases k with
        | sh =>
          obtain ⟨v', q1, q2⟩ := r.sh i d hs
          rw [o'] at q1; cases q1
          exact done q2 (by unfold lkOf; simp only [hs]; rfl)
        | lk =>
          obtain ⟨a, q1, q2, q3, q4, q5⟩ := r.lk i d hs
          rw [o'] at q1; cases q1
          cases d with
          | lst ds' =>
            cases e
            obtain ⟨vs, h1, h2⟩ := q5
            have e0 : lkOf s (.nm i) = [] := by unfold lkOf; simp only [hs]; rfl
            rw [e0]
            refine ⟨a, rfl, ⟨vs, SqL.of h1⟩, B, L, vs, lkd0 r, h2, fun B2 L2 w2 s2 σ2 H2 bb ex r2 => ?_, fun _ => rfl⟩
            cases hb : B a with
            | none => exact absurd hb q3
            | some u =>
              have z := r.bh a u hb
              rw [h1] at z
              cases z
              exact SqL.of (r2.bh a _ ((bb a q3).trans hb))
          | fl _ => exact q5.elim
          | _ => cases e
        | ow =>
          obtain ⟨a, B', L', q1, q2, q5, q6, q7⟩ := lock_one r hs
          rw [o'] at q1; cases q1
          cases d with
          | lst ds' =>
            cases e
            obtain ⟨vs, h1, h2⟩ := q5
            have e0 : lkOf s (.nm i) = [i] := by unfold lkOf; simp only [hs]; rfl
            have hi : i < 1000000 := by
              unfold plainR at hp
              simp only [hs] at hp
              exact of_decide_eq_true hp
            rw [e0, (lkd1 hi).1, (lkd1 hi).2]
            refine ⟨a, rfl, ⟨vs, SqL.of h1⟩, B', L', vs, q7, h2, fun B2 L2 w2 s2 σ2 H2 bb ex r2 => SqL.of (r2.bh a _ ((bb a (by rw [q2, h1]; exact fun z => nomatch z)).trans (q2.trans h1))), fun z => (nomatch z)⟩
          | fl _ => exact q5.elim
          | _ => cases e
      · cases l
theorem src_tup (r : Rel K B L w s σ H) {x : R} {v : V} {ds : List D} (l' : look s x = some (.tup ds)) (o : OpOk K w σ x v) :
    ∃ a vs, v = .ref a ∧ SqT K H a vs ∧ lkOf s x = [] ∧ Reps K w ds vs ∧ StT K B w a vs := by
  have l := look0_tup l'
  have shared : Rep K w (.tup ds) v → ∃ a vs, v = .ref a ∧ SqT K H a vs ∧ Reps K w ds vs ∧ StT K B w a vs := fun h => by
    unfold Rep at h
    obtain ⟨a, vs, e, h1, h2⟩ := h
    exact ⟨a, vs, e, sqT_mono r.gh h1, h2, fun B2 L2 w2 s2 σ2 H2 bb ex r2 => sqT_mono (fun a o h => r2.gh _ _ (ex.g _ _ h)) h1⟩
  cases x with
  | sh d' =>
    cases l
    obtain ⟨a, vs, h1, h2, h3, h4⟩ := shared o
    exact ⟨a, vs, h1, h2, rfl, h3, h4⟩
  | fr d' =>
    cases d' with
    | lst _ => cases l
    | _ => cases l
  | nm i =>
    have o' : σ[i]? = some (some v) := o
    unfold look0 at l
    split at l
    · rename_i z; cases z
    · rename_i z; cases z
    · rename_i z; cases z
    · rename_i j z
      cases z
      split at l
      · rename_i sl hs
        obtain ⟨k, d⟩ := sl
        cases l
        cases k with
        | sh =>
          obtain ⟨v', q1, q2⟩ := r.sh i _ hs
          rw [o'] at q1; cases q1
          obtain ⟨a, vs, h1, h2, h3, h4⟩ := shared q2
          exact ⟨a, vs, h1, h2, by unfold lkOf; simp only [hs]; rfl, h3, h4⟩
        | lk =>
          obtain ⟨a, q1, q2, q3, q4, q5⟩ := r.lk i _ hs
          exact q5.elim
        | ow =>
          obtain ⟨a, q1, q2, q3, q4, q5⟩ := r.ow i _ hs
          exact q5.elim
      · cases l
/-- with the step's own equation -/
theorem tE_bd' {γ : Type} {F : Cf} {c : Ex} {f : R → M γ} {o : Out γ} {Q : V → Hp → Prop} (hR : Rel K B L w s σ H) (e : bd (evE F c) f s = some o) (hx : XP K cls W B L w σ o)
    (k : ∀ a s1 w1 b H1, evE F c s = some (.ok a s1) → Ext B w w1 → Rel K B L w1 s1 σ H1 → OpOk K w1 σ a b → f a s1 = some o → XP K cls W B L w1 σ o → Q b H1) : tE K cls W F c σ H Q := by
  rcases bd_inv e with ⟨x, s1, h1, e1⟩ | ⟨n, s1, h1, rfl⟩
  · refine ⟨B, L, w, s, _, hR, h1, fun a s' eo w' b H' ex R' hr => ?_, fun n s' eo => (nomatch eo)⟩
    cases eo
    obtain ⟨w2, ex2, R2, o2⟩ := R'.norm hr
    exact k x s1 w2 b H' h1 (ex.trans ex2) R2 o2 e1 (hx.mono (ex.trans ex2))
  · exact ⟨B, L, w, s, _, hR, h1, fun a s' eo => (nomatch eo), fun n s' eo w' H' ex R' => by cases eo; exact hx n _ rfl w' H' ex R'⟩
/-- the reading of what is walked -/
def tSrc (K : PySem.W.Frag) (cls : Str → Value) (W : WX) (F : Cf) (c : Src) : TI := fun σ H Q => ∃ B L w s o, Rel K B L w s σ H ∧ evSrc F c s = some o ∧
  (∀ p s', o = .ok p s' → ∀ w' H' J, Ext B w w' → Rel K B L w' s' σ H' → Srcs K B L w' s' σ H' J p.1 p.2 → Q J H') ∧ XP K cls W B L w σ o
end
section
variable {X : Cx} {cls : Str → Value} {W : WX} {F : Cf} {pos p : Pos} {tg a b : Expr} {ca cb : Ex} {es : List Expr} {cs : Exs}
theorem cel_val {x : R} {v : V} {n : Nat} {K : PySem.W.Frag} {B : Hp} {L : Nat → Option Addr} {w : Wr} {s : Sx} {σ : L2.St} {H : Hp} (r : Rel K B L w s σ H) (e : celR s x = some n) (o : OpOk K w σ x v) : ∃ a, v = .ref a ∧ w.ca[n]? = some a := by
  have cl : Rep K w (.cel n) v → ∃ a, v = .ref a ∧ w.ca[n]? = some a := fun h => by
    unfold Rep at h
    obtain ⟨a, h1, h2⟩ := h
    exact ⟨a, h2, h1⟩
  cases x with
  | sh d =>
    cases d with
    | cel m => cases e; exact cl o
    | _ => cases e
  | fr d => cases e
  | nm i =>
    have o' : σ[i]? = some (some v) := o
    have e' : (match s.e[i]? with
      | some (some ⟨_, .cel n⟩) => some n
      | _ => none) = some n := e
    split at e'
    · rename_i k m hs
      cases e'
      cases k with
      | sh =>
        obtain ⟨v', q1, q2⟩ := r.sh i _ hs
        rw [o'] at q1
        cases q1
        exact cl q2
      | lk =>
        obtain ⟨a, q1, q2, q3, q4, q5⟩ := r.lk i _ hs
        exact q5.elim
      | ow =>
        obtain ⟨a, q1, q2, q3, q4, q5⟩ := r.ow i _ hs
        exact q5.elim
    · cases e'
theorem str_val {x : R} {v : V} {z : Str} {K : PySem.W.Frag} {B : Hp} {L : Nat → Option Addr} {w : Wr} {s : Sx} {σ : L2.St} {H : Hp} (r : Rel K B L w s σ H) (l : look s x = some (.str z)) (hs : lkOf s x = []) (o : OpOk K w σ x v) : v = .str z := (r.rd l o).str
theorem str_lk {x : R} {z : Str} {K : PySem.W.Frag} {B : Hp} {L : Nat → Option Addr} {w : Wr} {s : Sx} {σ : L2.St} {H : Hp} (r : Rel K B L w s σ H) (hp : plainR s x = true) (l : look s x = some (.str z)) : lkOf s x = [] := by
  have l0 := look0_plain hp l
  cases x with
  | sh d => rfl
  | fr d => rfl
  | nm i =>
    have l' : (match s.e[i]? with
      | some (some sl) => some sl.d
      | _ => none) = some (.str z) := l0
    split at l'
    · rename_i sl hs
      obtain ⟨k, d⟩ := sl
      cases l'
      cases k with
      | ow =>
        obtain ⟨a, q1, q2, q3, q4, q5⟩ := r.ow i _ hs
        exact q5.elim
      | _ =>
        unfold lkOf
        simp only [hs]
        rfl
    · cases l'
theorem r_seq (ha : PE X a (tE X.K cls W F ca)) : PI X tg a (tSrc X.K cls W F (.seq ca)) :=
  PIm (PIor (pi_list ha) (PIor (pi_tup ha) (pi_str ha))) fun σ H Q ⟨B, L, w, s, o, hR, e, k, hx⟩ => by
    rw [evSrc] at e
    rcases bd_inv e with ⟨x, s1, h1, e1⟩ | ⟨n, s1, h1, rfl⟩
    · unfold seqR at e1
      split at e1
      · rename_i hpl
        split at e1
        · rename_i d hl
          split at e1
          · rename_i ds hs
            cases e1
            have go : (lstOf d = some ds) ∨ d = .tup ds ∨ ∃ z, d = .str z ∧ ds = z.cps.toList.map fun c => .str ⟨#[c]⟩ := by
              cases d with
              | lst _ => exact .inl hs
              | fl _ => exact .inl hs
              | tup _ => cases hs; exact .inr (.inl rfl)
              | str z => cases hs; exact .inr (.inr ⟨z, rfl, rfl⟩)
              | _ => cases hs
            rcases go with h2 | rfl | ⟨z, rfl, rfl⟩
            · refine .inl (tE_bd' hR e hx fun y s2 w1 v1 H1 he x1 R1 o1 e1 hx1 => ?_)
              rw [h1] at he
              cases he
              obtain ⟨a0, rfl, sq, B', L', vs, lk, rp, st, _⟩ := src_list R1 hpl (look0_plain hpl hl) h2 o1
              exact ⟨a0, rfl, sq, k _ _ rfl w1 H1 _ x1 R1 ⟨B', L', lk, (walk_list st rp).g, gd_lk hpl⟩⟩
            · refine .inr (.inl (tE_bd' hR e hx fun y s2 w1 v1 H1 he x1 R1 o1 e1 hx1 => ?_))
              rw [h1] at he
              cases he
              obtain ⟨a0, vs, rfl, sq, e0, rp, st⟩ := src_tup R1 hl o1
              refine ⟨a0, rfl, ⟨vs, sq⟩, k _ _ rfl w1 H1 _ x1 R1 ⟨B, L, ?_, (walk_tup st rp).g, gd_lk hpl⟩⟩
              show Lkd X.K B L w1 _ σ H1 (lock (lkOf _ x)) (unlock (lkOf _ x)) B L
              rw [e0]
              exact lkd0 R1
            · refine .inr (.inr (tE_bd' hR e hx fun y s2 w1 v1 H1 he x1 R1 o1 e1 hx1 => ?_))
              rw [h1] at he
              cases he
              have e0 := str_lk R1 hpl hl
              refine ⟨z, str_val R1 hl e0 o1, k _ _ rfl w1 H1 _ x1 R1 ⟨B, L, ?_, walk_str.g, gd_lk hpl⟩⟩
              show Lkd X.K B L w1 _ σ H1 (lock (lkOf _ x)) (unlock (lkOf _ x)) B L
              rw [e0]
              exact lkd0 R1
          · cases e1
        · cases e1
      · split at e1
        · rename_i n hn
          split at e1
          · rename_i ds hds
            cases e1
            refine .inl (tE_bd' hR e hx fun y s2 w1 v1 H1 he x1 R1 o1 e1 hx1 => ?_)
            rw [h1] at he
            cases he
            obtain ⟨a0, rfl, h0⟩ := cel_val R1 hn o1
            obtain ⟨a', vs, g1, g2, g3⟩ := R1.cl n ds hds
            rw [h0] at g1
            cases g1
            exact ⟨a0, rfl, ⟨vs, SqL.of g2⟩, k _ _ rfl w1 H1 _ x1 R1 ⟨B, L, lkdC R1, walk_cel h0, fun m hm => by
              have := List.mem_singleton.mp hm
              rw [show m = n by omega]
              exact hds⟩⟩
          · cases e1
        · cases e1
    · refine .inl (tE_bd' hR e hx fun y s2 w1 v1 H1 he x1 R1 o1 e1 hx1 => ?_)
      rw [h1] at he; cases he
theorem r_enu {elts : List Expr} {kk : Nat} {tpos : Pos} (hg : Gl X "enumerate") (hm : X.mg "enumerate" = none) (ha : PE X a (tE X.K cls W F ca)) (hs : starEach [a] X.env = [(false, eval a X.env)]) :
    PI X (.Tuple elts kk tpos) (.Call (.Name "enumerate" p) [a] [] pos) (tSrc X.K cls W F (.enu ca)) :=
  PIm (pi_enum hg hm (pa_cons ha pa_nil hs) hs) fun σ H Q ⟨B, L, w, s, o, hR, e, k, hx⟩ => by
    rw [evSrc] at e
    refine tE_bd hR e hx fun x s1 w1 v1 H1 x1 R1 o1 e1 hx1 => ?_
    obtain ⟨d, l, e2⟩ := lkp_some e1
    split at e2
    case isFalse => cases e2
    rename_i hpl
    cases hl : lstOf d with
    | none => simp only [hl] at e2; cases e2
    | some ds =>
      simp only [hl] at e2
      cases e2
      obtain ⟨a0, rfl, ⟨xs, sq⟩, B', L', vs, lk, rp, st, _⟩ := src_list R1 hpl (look0_plain hpl l) hl o1
      exact ⟨a0, xs, rfl, sq, k _ _ rfl w1 H1 _ x1 R1 ⟨B', L', lk, (walk_enum st rp).g, gd_lk hpl⟩⟩
theorem r_zip {elts : List Expr} {kk : Nat} {tpos : Pos} (hg : Gl X "zip") (hm : X.mg "zip" = none) (ha : PE X a (tE X.K cls W F ca)) (hb : PE X b (tE X.K cls W F cb)) (hs : starEach [a, b] X.env = (false, eval a X.env) :: starEach [b] X.env) (hs2 : starEach [b] X.env = [(false, eval b X.env)]) :
    PI X (.Tuple elts kk tpos) (.Call (.Name "zip" p) [a, b] [] pos) (tSrc X.K cls W F (.zip ca cb)) :=
  PIm (RZ.pi_zipA hg hm (pa_cons ha (pa_cons hb pa_nil hs2) hs) hs (by rw [hs2]; rfl)) fun σ H Q ⟨B, L, w, s, o, hR, e, k, hx⟩ => by
    rw [evSrc] at e
    refine tE_bd hR e hx fun x s1 w1 v1 H1 x1 R1 o1 e1 hx1 => tE_bd R1 e1 hx1 fun y s2 w2 v2 H2 x2 R2 o2 e2 hx2 => ?_
    obtain ⟨d, l, e3⟩ := lkp_some e2
    obtain ⟨d', l', e4⟩ := lkp_some e3
    split at e4
    · rename_i xs ys h1 h2
      split at e4
      · rename_i h0
        cases e4
        obtain ⟨a0, rfl, ⟨us, sq⟩, B', L', vs, lk, rp, st, z⟩ := src_list R2 h0.2.2.1 (look0_plain h0.2.2.1 l) h1 (o1.mono x2.toGr)
        obtain ⟨a1, rfl, ⟨us', sq'⟩, B'', L'', vs', lk', rp', st', z'⟩ := src_list R2 h0.2.2.2 (look0_plain h0.2.2.2 l') h2 o2
        rw [z h0.1] at st
        rw [z' h0.2.1] at st'
        exact ⟨a0, a1, us, us', rfl, .inl ⟨sq, sq', k _ _ rfl w2 H2 _ (x1.trans x2) R2 ⟨B, L, lkd0 R2, (walk_zip st st' rp rp').g, gd_nil⟩⟩⟩
      · cases e4
    · split at e4
      · cases e4
        obtain ⟨a0, us, rfl, sq, _, rp, st⟩ := src_tup R2 l (o1.mono x2.toGr)
        obtain ⟨a1, us', rfl, sq', _, rp', st'⟩ := src_tup R2 l' o2
        exact ⟨a0, a1, us, us', rfl, .inr ⟨sq, sq', k _ _ rfl w2 H2 _ (x1.trans x2) R2 ⟨B, L, lkd0 R2, (walk_zipT st st' rp rp').g, gd_nil⟩⟩⟩
      · cases e4
variable {c : Expr} {cc : Ex}
theorem r_rng1 (hg : Gl X "range") (hm : X.mg "range" = none) (ha : PE X a (tE X.K cls W F ca)) (hs : starEach [a] X.env = [(false, eval a X.env)]) : PI X tg (.Call (.Name "range" p) [a] [] pos) (tSrc X.K cls W F (.rng (.cons ca .nil))) :=
  PIm (pi_range1 hg hm (pa_cons ha pa_nil hs) hs) fun σ H Q ⟨B, L, w, s, o, hR, e, k, hx⟩ => by
    rw [evSrc, evAs, evAs, bd_bd] at e
    refine tE_bd hR e hx fun x s1 w1 v1 H1 x1 R1 o1 e1 hx1 => ?_
    have e1' : bd (looks [x]) (fun ds => op? ((rngD ds).map fun l => (l, []))) s1 = some o := e1
    obtain ⟨ds, e2, hl, hd⟩ := looks_bd R1 (show OpsOk X.K w1 σ [x] [v1] from ⟨v1, [], rfl, o1, rfl⟩) e1'
    obtain ⟨p, e3, rfl⟩ := op_some e2
    match ds, hl with
    | [d], _ =>
      have h1 := hd 0 d v1 rfl rfl
      cases hr : rngD [d] with
      | none => rw [hr] at e3; cases e3
      | some l =>
        rw [hr] at e3
        cases e3
        unfold rngD at hr
        split at hr
        · rename_i i h0
          cases h0
          split at hr
          · rename_i hz
            cases hr
            refine ⟨_, by rw [h1.int], hz.1, hz.2, k _ _ rfl w1 H1 _ x1 R1 ⟨B, L, lkd0 R1, ?_, gd_nil⟩⟩
            have := walk_rng (K := X.K) (B := B) (w := w1) (lo := 0) (n := i.toNat)
            simp only [Int.zero_add] at this
            exact this.g
          · cases hr
        · rename_i h0; cases h0
        · rename_i h0; cases h0
        · cases hr
theorem r_rng2 (hg : Gl X "range") (hm : X.mg "range" = none) (ha : PE X a (tE X.K cls W F ca)) (hb : PE X b (tE X.K cls W F cb)) (hs : starEach [a, b] X.env = (false, eval a X.env) :: starEach [b] X.env) (hs2 : starEach [b] X.env = [(false, eval b X.env)]) :
    PI X tg (.Call (.Name "range" p) [a, b] [] pos) (tSrc X.K cls W F (.rng (.cons ca (.cons cb .nil)))) :=
  PIm (pi_range2 hg hm (pa_cons ha (pa_cons hb pa_nil hs2) hs) (by rw [hs, hs2]) hs2) fun σ H Q ⟨B, L, w, s, o, hR, e, k, hx⟩ => by
    rw [evSrc, evAs, evAs, evAs, bd_bd] at e
    refine tE_bd hR e hx fun x s1 w1 v1 H1 x1 R1 o1 e1 hx1 => ?_
    rw [bd_bd, bd_bd] at e1
    refine tE_bd R1 e1 hx1 fun y s2 w2 v2 H2 x2 R2 o2 e2 hx2 => ?_
    have e2' : bd (looks [x, y]) (fun ds => op? ((rngD ds).map fun l => (l, []))) s2 = some o := e2
    obtain ⟨ds, e3, hl, hd⟩ := looks_bd R2 (show OpsOk X.K w2 σ [x, y] [v1, v2] from ⟨v1, [v2], rfl, o1.mono x2.toGr, v2, [], rfl, o2, rfl⟩) e2'
    obtain ⟨p, e4, rfl⟩ := op_some e3
    match ds, hl with
    | [d, d'], _ =>
      have h1 := hd 0 d v1 rfl rfl
      have h2 := hd 1 d' v2 rfl rfl
      cases hr : rngD [d, d'] with
      | none => rw [hr] at e4; cases e4
      | some l =>
        rw [hr] at e4
        cases e4
        unfold rngD at hr
        split at hr
        · rename_i h0; cases h0
        · rename_i i j h0
          cases h0
          split at hr
          · rename_i hz
            cases hr
            exact ⟨_, _, by rw [h1.int, h2.int], ⟨hz.1.1, hz.1.2, hz.2.1, hz.2.2⟩, k _ _ rfl w2 H2 _ (x1.trans x2) R2 ⟨B, L, lkd0 R2, walk_rng.g, gd_nil⟩⟩
          · cases hr
        · rename_i h0; cases h0
        · cases hr
theorem walk_rngC {K : PySem.W.Frag} {B : Hp} {w : Wr} {lo : Int} {n : Nat} : Walk K B w (Itc lo (-1) n) ((List.range n).map fun (k : Nat) => D.int (lo - (k : Int))) := fun B2 L2 w2 s2 σ2 H2 bb ex r i => by
  refine ⟨fun d e => ?_, fun e => ?_⟩
  · rw [List.getElem?_map] at e
    have hi : i < n := by
      by_cases hi : i < n
      · exact hi
      · rw [List.getElem?_eq_none (by simpa using hi)] at e; cases e
    rw [List.getElem?_range hi] at e
    cases e
    refine ⟨hi, fun x H3 y => ?_⟩
    obtain ⟨rfl, rfl⟩ := y
    have z : lo + (i : Int) * -1 = lo - i := by omega
    refine ⟨w2, Ext.refl, r, ?_⟩
    rw [z]
    exact rep_int
  · have e' := List.getElem?_eq_none_iff.mp e
    rw [List.length_map, List.length_range] at e'
    exact e'
theorem r_rng3 (hg : Gl X "range") (hm : X.mg "range" = none) (ha : PE X a (tE X.K cls W F ca)) (hb : PE X b (tE X.K cls W F cb)) (hc : PE X c (tE X.K cls W F cc)) (hs : starEach [a, b, c] X.env = (false, eval a X.env) :: starEach [b, c] X.env) (hs2 : starEach [b, c] X.env = (false, eval b X.env) :: starEach [c] X.env) (hs3 : starEach [c] X.env = [(false, eval c X.env)]) :
    PI X tg (.Call (.Name "range" p) [a, b, c] [] pos) (tSrc X.K cls W F (.rng (.cons ca (.cons cb (.cons cc .nil))))) :=
  PIm (pi_range3 hg hm (pa_cons ha (pa_cons hb (pa_cons hc pa_nil hs3) hs2) hs) hs (by rw [hs2, hs3]; rfl)) fun σ H Q ⟨B, L, w, s, o, hR, e, k, hx⟩ => by
    rw [evSrc, evAs, evAs, evAs, evAs, bd_bd] at e
    refine tE_bd hR e hx fun x s1 w1 v1 H1 x1 R1 o1 e1 hx1 => ?_
    rw [bd_bd, bd_bd] at e1
    refine tE_bd R1 e1 hx1 fun y s2 w2 v2 H2 x2 R2 o2 e2 hx2 => ?_
    rw [bd_bd, bd_bd] at e2
    refine tE_bd R2 e2 hx2 fun z s3 w3 v3 H3 x3 R3 o3 e3 hx3 => ?_
    have e3' : bd (looks [x, y, z]) (fun ds => op? ((rngD ds).map fun l => (l, []))) s3 = some o := e3
    obtain ⟨ds, e4, hl, hd⟩ := looks_bd R3 (show OpsOk X.K w3 σ [x, y, z] [v1, v2, v3] from ⟨v1, [v2, v3], rfl, o1.mono (x2.trans x3).toGr, v2, [v3], rfl, o2.mono x3.toGr, v3, [], rfl, o3, rfl⟩) e3'
    obtain ⟨p, e5, rfl⟩ := op_some e4
    match ds, hl with
    | [d, d', d''], _ =>
      have h1 := hd 0 d v1 rfl rfl
      have h2 := hd 1 d' v2 rfl rfl
      have h3 := hd 2 d'' v3 rfl rfl
      cases hr : rngD [d, d', d''] with
      | none => rw [hr] at e5; cases e5
      | some l =>
        rw [hr] at e5
        cases e5
        unfold rngD at hr
        split at hr
        · rename_i h0; cases h0
        · rename_i h0; cases h0
        · rename_i i j q h0
          cases h0
          split at hr
          · rename_i hz
            cases hr
            obtain ⟨rfl, hz1, hz2⟩ := hz
            exact ⟨_, _, -1, _, by rw [h1.int, h2.int, h3.int], RgC.neg hz1.1 hz1.2 hz2.1 hz2.2, k _ _ rfl w3 H3 _ (x1.trans (x2.trans x3)) R3 ⟨B, L, lkd0 R3, (walk_rngC).g, gd_nil⟩⟩
          · cases hr
        · cases hr
end
end PV
set_option maxHeartbeats 4000000
/-! A comprehension whose element may raise: the exception goes on in the def's own frame. -/
namespace PV
open PySem PySem.Spec PyProof.Rows L2
section
variable {M : Model} {A : Around} {E : Value → Shared → Prop} {s : Shared} {Z : Obj → Prop} {base : Heap} {env : Env} {outer l : List Env} {L e : Addr}
/-- noted, whatever other frame it was noted by -/
theorem looks_farZ {fl : Value} {Q : Unit → Shared → Prop} (hZ : HandSPX.Steady Z) (hfr : A.frames = some (env :: outer)) (hf : env.frame = some L) (hkb : base.StaysIn s.heap) (hen : base.get? e = none) (hl : s.heap.FunFrames base (env :: outer)) (ht : HandSPX.TracedZ s.heap base e Z fl) (hne : (fl == rawInt L) = false)
    (hQ : ∀ h', HandSPX.HeldZ base (env :: outer) e Z L h' → s.heap.UpToSlots h' → Q () { s with heap := h' }) : wpAny M A (noteFrame (.ref e) env) Q E s := by
  obtain ⟨oe, vs, T, oT, ts, he, hz, hd, h1, hnT, hTe, hT, hdT, h3⟩ := ht
  unfold noteFrame
  simp only [hf]
  refine wpAny_bind (wpAny_field he hd h1 ?_)
  rw [if_pos (show (Value.ref T != Value.none) = true from by simp)]
  refine wpAny_bind (wpAny_field hT hdT h3 ?_)
  rw [if_neg (by rw [hne]; exact Bool.false_ne_true)]
  refine wpAny_bind (wpAny_setField hT hdT (Array.getElem?_eq_some_iff.mp h3).1 ?_)
  have other : ∀ b, b ≠ T → (s.heap.update T (Obj.mapFields (·.setIfInBounds 3 Value.none))).get? b = s.heap.get? b := fun b hb => Heap.get?_update_other _ _ (Ne.symm hb)
  have noRecord : ∀ b o, s.heap.get? b = some o → (∀ vs, o.data ≠ .fields vs) → b ≠ T := fun b o hb hnf q => by
    rw [q, hT] at hb
    cases hb
    exact hnf ts hdT
  refine HandSPX.wpAny_entryZ hZ hfr (hl.of_keeps fun b o hb hnf => ⟨o, (other b (noRecord b o hb hnf)).trans hb, rfl⟩) hf ((other e (Ne.symm hTe)).trans he)
    (fun b o hbo => (other b fun q => by rw [q, hnT] at hbo; cases hbo).trans (hkb b o hbo)) hen hd (Array.getElem?_eq_some_iff.mp h1).1 hz fun h' hN => ?_
  obtain ⟨x1, x2, x3, x4⟩ := hN
  exact hQ h' ⟨x1, hen, x2, x3⟩ fun b o hb hnf => x4 b o ((other b (noRecord b o hb hnf)).trans hb) hnf
end
/-- what a raise out of a comprehension's block owes to the def -/
theorem takes_blk {X : Cx} {Wout : WX} {pins : List (Addr × Obj)} {σ : L2.St} {H3 : Hp} {s3 : Shared} {scope : Scope} {ce : Env} {fp : List Addr} (hs : X.stack = X.env :: X.outer) (hf : X.env.frame = some X.env.locals) (tk : Takes X Wout) (I3 : Inv X pins σ H3 s3)
    (cL : ce.locals = s3.heap.objs.size) (cf : ce.frame = X.env.frame) (f3 : ∀ b ∈ fp, FpOk X pins H3 b ∧ b < s3.heap.objs.size) {xe : Value → Shared → Prop} (hxe : ∀ e s', notedBy (model X.prog X.w) X.A ce (fun e s' => CompFails (model X.prog X.w) X.A X.xe ce e s') e s' → xe e s') :
    Takes ((X.blk s3 H3 scope ce fp).wish xe) (fun cl d _ H => Wout cl d σ H) := by
  rintro u s' ⟨a, B, sI, pinsB, σB, H, cls, d, rfl, IB, nb, up, sky, na, os, ag, w⟩
  refine hxe _ _ ?_
  have IB := IB.unwish
  have nb : ∀ b o, sI.heap.get? b = some o → b ∉ frs X.stack → B.get? b = some o := nb
  have sky : Sky B X.stack a (Zc cls d) ce.locals s'.heap := sky
  have w : Wout cls d σ H := w
  have hfr : X.A.frames = some (X.env :: X.outer) := by rw [I3.ok.frames, hs]
  have hCf : ce.locals ∉ frs X.stack := fun hm => by
    rcases List.mem_cons.mp (I3.stkSub _ hm) with z | z
    · rw [cL] at z
      exact absurd I3.lt (by rw [← z]; exact Nat.lt_irrefl _)
    · exact I3.nofs (Nat.le_of_eq cL.symm) z
  have hCL : ce.locals ≠ X.env.locals := fun z => by
    rw [cL] at z
    exact absurd I3.lt (by rw [← z]; exact Nat.lt_irrefl _)
  obtain ⟨m0, hn0, _⟩ := IB.loc
  have hn0 : sI.heap.Ns ce.locals m0 := hn0
  have nC : H ce.locals = none := IB.free
  have I7 : Inv X pins σ H sI := I3.call' (ch := fp) IB.os IB.base IB.hok IB.bare fun b hb => ⟨(f3 b hb).1.2.2.2.1, (f3 b hb).1.2.1, (f3 b hb).1.2.2.2.2.1, (f3 b hb).1.2.2.2.2.2⟩
  have fC : FpOk X pins H ce.locals := I3.fpOk (Nat.le_of_eq cL.symm) nC
  have hBC : ∃ oC, B.get? ce.locals = some oC := by
    obtain ⟨oC, _, _, q, _⟩ := hn0
    exact ⟨oC, nb _ _ q hCf⟩
  -- behind the note
  have fin : ∀ h1, HandSPX.HeldZ B (X.env :: X.outer) a (Zc cls d) X.env.locals h1 → s'.heap.UpToSlots h1 → CompFails (model X.prog X.w) X.A X.xe ce (.ref a) { s' with heap := h1 } := fun h1 hh up1 => by
    refine ⟨m0, hn0.upToSlots fun b o e hnf => (up.trans up1) b o e hnf, fun h2 m2 hn2 hs2 => ?_⟩
    have hs2 : Heap.SameBut ce.locals h1 h2 := hs2
    obtain ⟨b1, b0, f1, oe, vs, T, oT, ts, he, hz, hd, h1', hnT, hTe, hT, hdT, h3⟩ := hh
    obtain ⟨oC, hC⟩ := hBC
    obtain ⟨oC2, es2, ep2, hC2, hdC2, _⟩ := id hn2
    have haC : a ≠ ce.locals := fun z => by rw [z, hC] at b0; cases b0
    have hTC : T ≠ ce.locals := fun z => by rw [z, hC] at hnT; cases hnT
    generalize hB2 : B.update ce.locals (fun _ => oC2) = B2
    have B2C : B2.get? ce.locals = some oC2 := by
      rw [← hB2]
      exact Heap.get?_update_self (fun _ => oC2) hC (Heap.get?_some_iff.mp hC2).2
    have B2o : ∀ b, b ≠ ce.locals → B2.get? b = B.get? b := fun b hb => by
      rw [← hB2]
      exact Heap.get?_update_other _ _ (Ne.symm hb)
    have st2 : B2.StaysIn h2 := fun b o e => by
      by_cases z : b = ce.locals
      · subst z
        rw [B2C] at e
        cases e
        exact hC2
      · rw [B2o b z] at e
        exact (hs2.2 b z).trans (b1 b o e)
    have ff2 : h2.FunFrames B2 (X.env :: X.outer) := by
      have q := Heap.FunFrames.sameBut hs2 hn2 f1
      refine funFrames_none q fun b hb => ?_
      have hb' : b ∈ frs X.stack := by rw [hs]; exact hb
      rw [B2o b fun z => hCf (by rw [← z]; exact hb')]
      exact (q.mem hb).1
    have tr2 : HandSPX.TracedZ h2 B2 a (Zc cls d) (rawInt X.env.locals) :=
      ⟨oe, vs, T, oT, ts, (hs2.2 a haC).trans he, hz, hd, h1', (B2o T hTC).trans hnT, hTe, (hs2.2 T hTC).trans hT, hdT, h3⟩
    unfold PySem.passOn
    refine wpAny_bind (wpAny_field ((hs2.2 a haC).trans he) hd h1' ?_)
    rw [if_neg (show ¬ ((Value.ref T == Value.none) = true) from by simp)]
    rw [cf, hf]
    refine wpAny_bind (HandSPX.setFlight_anyZ (fr := some X.env.locals) st2 ff2 tr2 fun h3 k1 k2 k3 k4 => ?_)
    refine wpAny_throw (tk _ _ ?_)
    -- the state without the exception
    generalize hS2 : sI.heap.update ce.locals (fun _ => oC2) = S2
    have hCI : ∃ oC', sI.heap.get? ce.locals = some oC' := by
      obtain ⟨oC', _, _, q, _⟩ := hn0
      exact ⟨oC', q⟩
    obtain ⟨oC', hCI⟩ := hCI
    have S2C : S2.get? ce.locals = some oC2 := by
      rw [← hS2]
      exact Heap.get?_update_self (fun _ => oC2) hCI (Heap.get?_some_iff.mp hC2).2
    have S2o : ∀ b, b ≠ ce.locals → S2.get? b = sI.heap.get? b := fun b hb => by
      rw [← hS2]
      exact Heap.get?_update_other _ _ (Ne.symm hb)
    obtain ⟨c0, c1, c2, c3, c4, c5⟩ := fC
    refine ⟨a, B2, { sI with heap := S2 }, pins, σ, H, cls, d, rfl, I7.turned (t' := sI.toks) (fun b o hb e => (S2o b hb).trans e) c0 c1 c3 c4 c5, fun b o e hb => ?_, fun b o e hnf => ?_, .inr (.inr ⟨k1, ?_, by rw [hs]; exact k2, k3⟩), na, os, ag, w⟩
    · by_cases z : b = ce.locals
      · subst z
        have e : S2.get? ce.locals = some o := e
        rw [S2C] at e
        rw [← e]
        exact B2C
      · have e : S2.get? b = some o := e
        rw [S2o b z] at e
        rw [B2o b z]
        exact nb b o e hb
    · have e : S2.get? b = some o := e
      by_cases z : b = ce.locals
      · subst z
        rw [S2C] at e
        cases e
        exact k4 _ _ hC2 hnf
      · rw [S2o b z] at e
        obtain ⟨sl, e1⟩ := (up.trans up1) b o e hnf
        have q := k4 b { o with slots := sl } ((hs2.2 b z).trans e1) hnf
        exact q
    · rw [B2o a haC]
      exact b0
  show wpAny _ X.A (noteFrame (.ref a) ce) _ _ s'
  rw [noteFrame_env _ cf]
  rw [hs] at sky
  rcases sky with ⟨hB, hn, hl, oe, vs, he, hz, hd, h1⟩ | fl | hd
  · exact HandSPX.look_newZ Zc.steady hfr hl hf he hB hn hd h1 hz fin
  · exact HandSPX.looks_onZ Zc.steady hfr hf fl fin
  · obtain ⟨f1, f2, f3', f4⟩ := hd
    exact looks_farZ Zc.steady hfr hf f1 f2 f3' f4 (by
      have q : ¬ ((ce.locals : Int) = (X.env.locals : Int)) := fun z => hCL (Int.ofNat.inj z)
      simp [rawInt, q]) fin
/-- the walk of such a comprehension -/
theorem lcx_run {X : Cx} {Wout : WX} {pins : List (Addr × Obj)} {s : Shared} {σ : L2.St} {H : Hp} {Q : VK} {elt tg iter : Expr} {ifs : List Expr} {scope : Scope} {own : List (Str × Nat)} {pos pos' : Pos} {wi : TI} {g : TG} {tt : TT} {te : TE} {use : Option (Value → Sem Unit)} {Qf : Value → Shared → Prop}
    (hs : X.stack = X.env :: X.outer) (hf : X.env.frame = some X.env.locals) (tk : Takes X Wout) (hc : X.calm = true) (hN : X.N.Nodup) (I : Inv X pins σ H s) (hi : PI X tg iter wi) (ok : BlkOk X.N X.env.scope scope own)
    (hg : ∀ (s : Shared) (H : Hp) (C : Addr) (cl : List (Str × Addr)) (fp : List Addr), PG (X.blk s H scope (compEnvC scope cl C X.env) fp) tg g)
    (ht : ∀ (s : Shared) (H : Hp) (C : Addr) (cl : List (Str × Addr)) (fp : List Addr), PTs (X.blk s H scope (compEnvC scope cl C X.env) fp) ifs tt)
    (he : ∀ (s : Shared) (H : Hp) (C : Addr) (cl : List (Str × Addr)) (fp : List Addr) (xe : Value → Shared → Prop), Takes ((X.blk s H scope (compEnvC scope cl C X.env) fp).wish xe) (fun c d _ H => Wout c d σ H) → PE ((X.blk s H scope (compEnvC scope cl C X.env) fp).wish xe) elt te)
    (hfs : ∀ x, foldedSetIterable iter X.env x = pure x) (h : tLc wi g tt te (own.map (·.2)) σ H Q)
    (hRR : ∀ D C s' m H', Inv X pins σ H' s' → Q (.ref D) H' → s'.heap.Ns C m → FpOk X pins H' C → compPost (model X.prog X.w) X.A X.xe use Qf (.ref D) C (.ok .next) s') :
    wpAny (model X.prog X.w) X.A (comprehension (.ListComp elt [⟨tg, iter, ifs, 0⟩] scope pos) scope X.env pos' (newList []) false (eval iter X.env) use) Qf X.xe s := by
  have clo : closureFor scope X.env = pure (cloFrom X.env.cells scope.names []) := closure_ok fun y hy e => I.ok.has _ ((ok.free y hy e).imp id id)
  refine comprehension_at (use := use) rfl hfs clo ok.kind (fun y hy e => (ok.uniq y hy).trans (by rw [e])) (thn (hi.run pins s σ H _ I h) fun xv s1 q1 => thn q1 fun itv s2 q2 => ?_)
  obtain ⟨it, fp, tn, J, H2, rfl, I2, T, st2, f2, q⟩ := q2
  refine wpAny_newObj_type (newEnv_comp ?_) (Nat.zero_le _)
  obtain ⟨D, hD⟩ : ∃ D, D = s2.heap.objs.size := ⟨_, rfl⟩
  rw [← hD]
  have dn : H2 D = none := I2.hok.fresh (Nat.le_of_eq hD.symm)
  obtain ⟨Wm, ⟨m0, w0⟩, turn⟩ := q D dn
  obtain ⟨s3, hs3⟩ : ∃ s3 : Shared, s3 = { s2 with heap := s2.heap.push { cls := .type "list", data := .seq ([] : List Value).toArray } } := ⟨_, rfl⟩
  have keep3 : ∀ b o, s2.heap.get? b = some o → s3.heap.get? b = some o := fun b o e => by
    rw [hs3]
    exact Heap.get?_push_of_some _ e
  have I3 : Inv X pins σ (upd H2 D (.lst [])) s3 := by
    rw [hs3]
    exact I2.laid (t' := s2.toks) (fun b o e => Heap.get?_push_of_some _ e) (Nat.le_of_eq hD.symm) ⟨Nat.zero_le _, [], 0, .nil, by rw [hD]; exact Heap.get?_push_size _ rfl⟩
  have f3 : ∀ b ∈ fp, FpOk X pins (upd H2 D (.lst [])) b ∧ b < s3.heap.objs.size := fun b hb => by
    obtain ⟨o, e, _⟩ := T.obj _ _ st2 b hb
    have lt := Heap.lt_size e
    obtain ⟨u1, u2⟩ := f2 b hb
    exact ⟨⟨by rw [upd_ne (fun z => by rw [z, hD] at lt; exact Nat.lt_irrefl _ lt)]; exact u1, u2⟩, Heap.lt_size (keep3 b o e)⟩
  have I4 := block_start I3 ok hN f3
  rw [← hs3]
  show codeAny _ _ (.compStart (.ListComp elt [⟨tg, iter, ifs, 0⟩] scope pos) 0 (.ref it) (.ref D) (compEnvC scope (cellsFrom (s3.heap.objs.size + 1) scope.names (cloFrom X.env.cells scope.names [])) s3.heap.objs.size X.env))
    (compEnds (model X.prog X.w) X.A X.xe use Qf (.ref D) (compEnvC scope (cellsFrom (s3.heap.objs.size + 1) scope.names (cloFrom X.env.cells scope.names [])) s3.heap.objs.size X.env)) { s3 with heap := pushCells (s3.heap.push { cls := .type "dict", data := .dict #[] }) scope.names }
  generalize hH3 : upd H2 D (.lst []) = H3 at I3 I4 w0 f3
  have pg := hg s3 H3 s3.heap.objs.size (cellsFrom (s3.heap.objs.size + 1) scope.names (cloFrom X.env.cells scope.names [])) fp
  have pt := ht s3 H3 s3.heap.objs.size (cellsFrom (s3.heap.objs.size + 1) scope.names (cloFrom X.env.cells scope.names [])) fp
  have pe := he s3 H3 s3.heap.objs.size (cellsFrom (s3.heap.objs.size + 1) scope.names (cloFrom X.env.cells scope.names [])) fp
  obtain ⟨ce, hce⟩ : ∃ ce, ce = compEnvC scope (cellsFrom (s3.heap.objs.size + 1) scope.names (cloFrom X.env.cells scope.names [])) s3.heap.objs.size X.env := ⟨_, rfl⟩
  have cL : ce.locals = s3.heap.objs.size := by rw [hce]; rfl
  have cf : ce.frame = X.env.frame := by rw [hce]; rfl
  rw [← hce] at I4 pg pt pe ⊢
  obtain ⟨R, hR⟩ : ∃ R, R = compEnds (model X.prog X.w) X.A X.xe use Qf (.ref D) ce := ⟨_, rfl⟩
  rw [← hR]
  have tkB := takes_blk (scope := scope) hs hf tk I3 cL cf f3 (xe := notedBy (model X.prog X.w) X.A ce fun e s' => R (.error e) s') fun e s' q => by
    rw [hR]
    cases use <;> exact q
  have pe := pe _ tkB
  obtain ⟨s4, hs4⟩ : ∃ s4 : Shared, s4 = { s3 with heap := pushCells (s3.heap.push { cls := .type "dict", data := .dict #[] }) scope.names } := ⟨_, rfl⟩
  rw [← hs4] at I4 ⊢
  have st4 : tn 0 s4.heap := T.keep _ _ _ st2 fun b _ o e => by
    rw [hs4]
    exact pushCells_keeps _ _ _ _ (Heap.get?_push_of_some _ (keep3 b o e))
  have loop : codeAny (model X.prog X.w) X.A (.compLoop (.ListComp elt [⟨tg, iter, ifs, 0⟩] scope pos) 0 (.ref it) (.ref D) ce) R s4 := by
    refine compLoop_any (fun n s' => ∃ i H', Inv (X.blk s3 H3 scope ce fp) [] (wipe σ (own.map (·.2))) H' s' ∧ tn i s'.heap ∧ (∀ b ∈ fp, H' b = none) ∧ Wm i n H') ?_ m0 ⟨0, H3, I4, st4, fun b hb => (f3 b hb).1.1, w0⟩
    rintro n s5 ⟨i, H5, I5, st5, n5, w5⟩
    have stat : ∀ {σ' : L2.St} {H' : Hp} {s' : Shared}, Inv (X.blk s3 H3 scope ce fp) [] σ' H' s' → (∀ b ∈ fp, H' b = none) → ∀ b ∈ fp, FpOk (X.blk s3 H3 scope ce fp) [] H' b := fun {σ' H' s'} I' hn b hb => by
      obtain ⟨v1, v2⟩ := I'.ok.exf b hb
      exact ⟨hn b hb, v1, I'.ok.exfs b hb, .inl hb, v2, fun p hp => (nomatch hp)⟩
    rcases turn i n H5 w5 with ⟨stop, qq⟩ | ⟨go, Nx, hNx, step⟩
    · refine thnF (T.done (X.blk s3 H3 scope ce fp) rfl rfl rfl hc i [] s5 _ H5 (fun _ _ => False) I5 (stat I5 n5) st5 stop) fun r s6 ⟨hr, I6⟩ => ?_
      subst hr
      have I7 : Inv X pins σ H5 s6 := I3.call' (ch := fp) I6.os I6.base I6.hok I6.bare fun b hb => by
        obtain ⟨⟨_, v1, _, v2, v3, v4⟩, _⟩ := f3 b hb
        exact ⟨v2, v1, v3, v4⟩
      obtain ⟨m, hn, _⟩ := I6.loc
      have hn : s6.heap.Ns ce.locals m := hn
      have nC : H5 ce.locals = none := I6.free
      have fin := hRR D ce.locals s6 m H5 I7 qq hn (I3.fpOk (Nat.le_of_eq cL.symm) nC)
      show R (.ok .next) s6
      rw [hR]
      cases use <;> exact fin
    · refine thnF (T.item (X.blk s3 H3 scope ce fp) rfl rfl rfl hc i [] s5 _ H5 (fun _ _ => False) I5 (stat I5 n5) st5 go) fun r s6 ⟨u, hr, q6⟩ => ?_
      subst hr
      refine thnF q6 fun _ s7 ⟨x, H7, I7, r7, y7, st7, n7⟩ => ?_
      refine thnF (pg.run _ s7 _ H7 x u _ (I7.pinned (stat I7 n7) (T.obj _ _ st7)) r7 (step x H7 y7)) fun _ s8 ⟨σ8, H8, I8, hw8, q8⟩ => ?_
      refine thnF (pt.run _ s8 σ8 H8 _ I8 q8) fun b s9 ⟨H9, I9, q9⟩ => ?_
      have fin : ∀ {s' : Shared} {H' : Hp}, Inv (X.blk s3 H3 scope ce fp) ([] ++ pinsAt fp s7.heap) σ8 H' s' → Nx H' → ∃ m, m < n ∧ ∃ i H', Inv (X.blk s3 H3 scope ce fp) [] (wipe σ (own.map (·.2))) H' s' ∧ tn i s'.heap ∧ (∀ b ∈ fp, H' b = none) ∧ Wm i m H' := fun {s' H'} I' nx => by
        obtain ⟨m', hm, w'⟩ := hNx H' nx
        have pin' : ∀ b ∈ fp, ∀ o, s7.heap.get? b = some o → s'.heap.get? b = some o ∧ H' b = none := fun b hb o e => by
          obtain ⟨z1, z2, _⟩ := I'.pin (b, o) (List.mem_append_right _ (List.mem_append_right _ (mem_pinsAt hb e)))
          exact ⟨z1, z2⟩
        refine ⟨m', hm, i + 1, H', I'.unpinned.weak (by rw [← hw8, wipe_length]) (fun j v e => ?_), T.keep _ _ _ st7 fun b hb o e => (pin' b hb o e).1, fun b hb => ?_, w'⟩
        · rw [← hw8] at e
          exact (wipe_some e).1
        · obtain ⟨o, e, _⟩ := T.obj _ _ st7 b hb
          exact (pin' b hb o e).2
      cases b with
      | false =>
        rw [if_neg Bool.false_ne_true] at q9 ⊢
        exact fin I9 q9
      | true =>
        rw [if_pos rfl] at q9 ⊢
        refine thn (pe.run _ s9 σ8 H9 _ (I9.wish _) q9) fun z s10 ⟨yv, H10, I10, r10, acc, hD10, hz10, nx⟩ => ?_
        exact app_ok (X := X.blk s3 H3 scope ce fp) I10.unwish hD10 hz10 r10 fun s11 I11 => fin I11 nx
  exact codeAny_compStart_list loop (T.self X.A 0 _ _ _ st4 loop)
/-- as a value; what its element may raise goes to Wout, with the def's slots of then -/
theorem pe_lcx {X : Cx} {Wout : WX} {elt tg iter : Expr} {ifs : List Expr} {scope : Scope} {own : List (Str × Nat)} {pos : Pos} {wi : TI} {g : TG} {tt : TT} {te : L2.St → TE}
    (hs : X.stack = X.env :: X.outer) (hf : X.env.frame = some X.env.locals) (tk : Takes X Wout) (hc : X.calm = true) (hN : X.N.Nodup) (hi : PI X tg iter wi) (ok : BlkOk X.N X.env.scope scope own)
    (hg : ∀ (s : Shared) (H : Hp) (C : Addr) (cl : List (Str × Addr)) (fp : List Addr), PG (X.blk s H scope (compEnvC scope cl C X.env) fp) tg g)
    (ht : ∀ (s : Shared) (H : Hp) (C : Addr) (cl : List (Str × Addr)) (fp : List Addr), PTs (X.blk s H scope (compEnvC scope cl C X.env) fp) ifs tt)
    (he : ∀ (σ : L2.St) (s : Shared) (H : Hp) (C : Addr) (cl : List (Str × Addr)) (fp : List Addr) (xe : Value → Shared → Prop), Takes ((X.blk s H scope (compEnvC scope cl C X.env) fp).wish xe) (fun c d _ H => Wout c d σ H) → PE ((X.blk s H scope (compEnvC scope cl C X.env) fp).wish xe) elt (te σ))
    (hfs : ∀ x, foldedSetIterable iter X.env x = pure x) : PE X (.ListComp elt [⟨tg, iter, ifs, 0⟩] scope pos) (fun σ H Q => tLc wi g tt (te σ) (own.map (·.2)) σ H Q) :=
  ⟨fun pins s σ H Q I h => by
    rw [eval_ListComp]
    refine lcx_run hs hf tk hc hN I hi ok hg ht (he σ) hfs h fun D C s' m H' I' q hn f => ⟨m, hn, fun h2 sb => ?_⟩
    obtain ⟨c0, c1, c2, c3, c4, c5⟩ := f
    exact ⟨.ref D, H', I'.turned (t' := s'.toks) (fun b o hb e => by rw [sb.2 b hb]; exact e) c0 c1 c3 c4 c5, rfl, q⟩⟩
end PV
set_option maxHeartbeats 4000000
/-! Targets, comprehensions. -/
namespace PV
open PySem PySem.Spec PyProof.Rows L2
/-! ### wiping -/
theorem wipe_get {σ : L2.St} {j : Nat} : ∀ {vs : List Nat}, (wipe σ vs)[j]? = if j ∈ vs then (if j < σ.length then some none else none) else σ[j]?
  | [] => by simp [wipe]
  | v :: vs => by
    unfold wipe
    rw [List.getElem?_set, wipe_length, wipe_get (vs := vs)]
    by_cases h : v = j
    · subst h
      simp
    · rw [if_neg h]
      by_cases h2 : j ∈ vs
      · rw [if_pos h2, if_pos (List.mem_cons_of_mem _ h2)]
      · rw [if_neg h2, if_neg (fun z => by rcases List.mem_cons.mp z with z | z; exact h z.symm; exact h2 z)]
theorem wipeE_len (e : List (Option Sl)) : ∀ vs : List Nat, (wipeE e vs).length = e.length
  | [] => rfl
  | v :: vs => by unfold wipeE; rw [List.length_set, wipeE_len e vs]
theorem wipeE_get {e : List (Option Sl)} {j : Nat} : ∀ {vs : List Nat}, (wipeE e vs)[j]? = if j ∈ vs then (if j < e.length then some none else none) else e[j]?
  | [] => by simp [wipeE]
  | v :: vs => by
    unfold wipeE
    rw [List.getElem?_set, wipeE_len, wipeE_get (vs := vs)]
    by_cases h : v = j
    · subst h
      simp
    · rw [if_neg h]
      by_cases h2 : j ∈ vs
      · rw [if_pos h2, if_pos (List.mem_cons_of_mem _ h2)]
      · rw [if_neg h2, if_neg (fun z => by rcases List.mem_cons.mp z with z | z; exact h z.symm; exact h2 z)]
theorem unwipe_len (e e' : List (Option Sl)) : ∀ vs : List Nat, (unwipe e vs e').length = e'.length
  | [] => rfl
  | v :: vs => by unfold unwipe; rw [List.length_set, unwipe_len e e' vs]
theorem unwipe_get {e e' : List (Option Sl)} {j : Nat} : ∀ {vs : List Nat}, (unwipe e vs e')[j]? = if j ∈ vs then (if j < e'.length then some (e.getD j none) else none) else e'[j]?
  | [] => by simp [unwipe]
  | v :: vs => by
    unfold unwipe
    rw [List.getElem?_set, unwipe_len, unwipe_get (vs := vs)]
    by_cases h : v = j
    · subst h
      simp
    · rw [if_neg h]
      by_cases h2 : j ∈ vs
      · rw [if_pos h2, if_pos (List.mem_cons_of_mem _ h2)]
      · rw [if_neg h2, if_neg (fun z => by rcases List.mem_cons.mp z with z | z; exact h z.symm; exact h2 z)]
theorem wipe_set {σ : L2.St} {i : Nat} {x : Option V} {vs : List Nat} (h : i ∈ vs) : wipe (σ.set i x) vs = wipe σ vs := by
  refine List.ext_getElem? fun j => ?_
  rw [wipe_get, wipe_get, List.length_set]
  by_cases hj : j ∈ vs
  · rw [if_pos hj, if_pos hj]
  · rw [if_neg hj, if_neg hj, List.getElem?_set_ne (fun z => hj (by rw [← z]; exact h))]
theorem wipe_wipe {σ : L2.St} {vs : List Nat} : wipe (wipe σ vs) vs = wipe σ vs := by
  refine List.ext_getElem? fun j => ?_
  rw [wipe_get, wipe_get, wipe_length]
  by_cases hj : j ∈ vs
  · rw [if_pos hj, if_pos hj]
  · rw [if_neg hj, if_neg hj]
section
variable {K : PySem.W.Frag} {cls : Str → Value} {W : WX} {B : Hp} {L : Nat → Option Addr} {w w' : Wr} {s s' : Sx} {σ : L2.St} {H H' : Hp}
theorem Rel.wiped (r : Rel K B L w s σ H) {vs : List Nat} (hv : ∀ i, i ∈ vs → L i = none) : Rel K B L w { s with e := wipeE s.e vs } (wipe σ vs) H := by
  have get : ∀ {j : Nat} {sl : Sl}, (wipeE s.e vs)[j]? = some (some sl) → s.e[j]? = some (some sl) ∧ (wipe σ vs)[j]? = σ[j]? := fun {j sl} h => by
    rw [wipeE_get] at h
    rw [wipe_get]
    by_cases hj : j ∈ vs
    · rw [if_pos hj] at h
      split at h <;> cases h
    · rw [if_neg hj] at h ⊢
      exact ⟨h, rfl⟩
  refine ⟨r.gh, r.bh, by rw [wipe_length]; exact (wipeE_len _ _).trans r.len, fun j d h => ?_, fun j d h => ?_, fun j d h => ?_, fun j a h => ?_, fun i j d d' a h1 h2 q1 q2 => ?_, r.cn, r.cl, r.cf, r.clen⟩
  · obtain ⟨g1, g2⟩ := get h
    rw [g2]; exact r.sh j d g1
  · obtain ⟨g1, g2⟩ := get h
    rw [g2]; exact r.ow j d g1
  · obtain ⟨g1, g2⟩ := get h
    rw [g2]; exact r.lk j d g1
  · obtain ⟨d, q⟩ := r.lk' j a h
    have hj : j ∉ vs := fun z => by rw [hv j z] at h; cases h
    exact ⟨d, by show (wipeE s.e vs)[j]? = _; rw [wipeE_get, if_neg hj]; exact q⟩
  · obtain ⟨g1, g2⟩ := get h1
    obtain ⟨g3, g4⟩ := get h2
    rw [g2] at q1
    rw [g4] at q2
    exact r.inj i j d d' a g1 g3 q1 q2
theorem Rel.unwiped {s0 : Sx} (r0 : Rel K B L w s0 σ H) (r : Rel K B L w' s (wipe σ s'0) H') {vs : List Nat} (hs : s'0 = vs) (g : Gr w w') (hn : noOwn s0.e vs = true) (hv : ∀ i, i ∈ vs → L i = none) : Rel K B L w' { s with e := unwipe s0.e vs s.e } σ H' := by
  subst hs
  have no : ∀ {vs : List Nat} {i : Nat}, noOwn s0.e vs = true → i ∈ vs → (∃ d, s0.e.getD i none = some ⟨.sh, d⟩ ∧ s0.e[i]? = some (some ⟨.sh, d⟩)) ∨ s0.e.getD i none = none := by
    intro vs
    induction vs with
    | nil => intro i _ h; cases h
    | cons v vs ih =>
      intro i h hi
      unfold noOwn at h
      rw [Bool.and_eq_true] at h
      rcases List.mem_cons.mp hi with rfl | hi
      · cases e : s0.e[i]? with
        | none => rw [e] at h; cases h.1
        | some x =>
          rw [List.getD_eq_getElem?_getD, e]
          cases x with
          | none => exact .inr rfl
          | some sl =>
            obtain ⟨k, d⟩ := sl
            rw [e] at h
            cases k with
            | sh => exact .inl ⟨d, rfl, rfl⟩
            | ow => cases h.1
            | lk => cases h.1
      · exact ih h.2 hi
  have lenS : s.e.length = σ.length := by rw [r.len, wipe_length]
  have get : ∀ {j : Nat} {sl : Sl}, (unwipe s0.e s'0 s.e)[j]? = some (some sl) → (j ∈ s'0 ∧ sl.k = .sh ∧ s0.e[j]? = some (some sl)) ∨ (j ∉ s'0 ∧ s.e[j]? = some (some sl) ∧ (wipe σ s'0)[j]? = σ[j]?) := fun {j sl} h => by
    rw [unwipe_get] at h
    by_cases hj : j ∈ s'0
    · rw [if_pos hj] at h
      split at h
      · rcases no hn hj with ⟨d, e1, e2⟩ | e1
        · rw [e1] at h
          cases h
          exact .inl ⟨hj, rfl, e2⟩
        · rw [e1] at h; cases h
      · cases h
    · rw [if_neg hj] at h
      exact .inr ⟨hj, h, by rw [wipe_get, if_neg hj]⟩
  refine ⟨r.gh, r.bh, (unwipe_len _ _ _).trans lenS, fun j d h => ?_, fun j d h => ?_, fun j d h => ?_, fun j a h => ?_, fun i j d d' a h1 h2 q1 q2 => ?_, r.cn, r.cl, r.cf, r.clen⟩
  · rcases get h with ⟨_, _, g1⟩ | ⟨_, g1, g2⟩
    · obtain ⟨v, p1, p2⟩ := r0.sh j d g1
      exact ⟨v, p1, p2.mono g⟩
    · rw [← g2]; exact r.sh j d g1
  · rcases get h with ⟨_, g0, g1⟩ | ⟨_, g1, g2⟩
    · cases g0
    · rw [← g2]; exact r.ow j d g1
  · rcases get h with ⟨_, g0, g1⟩ | ⟨_, g1, g2⟩
    · cases g0
    · rw [← g2]; exact r.lk j d g1
  · obtain ⟨d, q⟩ := r.lk' j a h
    have hj : j ∉ s'0 := fun z => by rw [hv j z] at h; cases h
    exact ⟨d, by show (unwipe s0.e s'0 s.e)[j]? = _; rw [unwipe_get, if_neg hj]; exact q⟩
  · rcases get h1 with ⟨_, g0, g1⟩ | ⟨_, g1, g2⟩
    · cases g0
    · rcases get h2 with ⟨_, g0, g3⟩ | ⟨_, g3, g4⟩
      · cases g0
      · rw [← g2] at q1
        rw [← g4] at q2
        exact r.inj i j d d' a g1 g3 q1 q2
end
section
variable {K : PySem.W.Frag} {B : Hp} {L : Nat → Option Addr} {w w' : Wr} {s : Sx} {σ : L2.St} {H : Hp} {p : Addr} {o : HO}
/-- a thing that none owns is kept as it is -/
theorem Rel.pin (r : Rel K B L w s σ H) (ho : H p = some o) (hb : B p = none) (hc : p ∉ w.ca) (hn : ∀ (i : Nat) d, s.e[i]? = some (some ⟨.ow, d⟩) → σ[i]? ≠ some (some (.ref p))) : Rel K (upd B p o) L w s σ H := by
  refine ⟨r.gh, fun a u h => ?_, r.len, r.sh, fun i d h => ?_, fun i d h => ?_, r.lk', r.inj, r.cn, r.cl, fun a h => ⟨(r.cf a h).1, ?_⟩, r.clen⟩
  · by_cases z : a = p
    · subst z; rw [upd_same] at h; cases h; exact ho
    · rw [upd_ne z] at h; exact r.bh a u h
  · obtain ⟨a, q1, q2, q3, q4, q5⟩ := r.ow i d h
    exact ⟨a, q1, q2, by rw [upd_ne (fun z => hn i d h (by rw [← z]; exact q1))]; exact q3, q4, q5⟩
  · obtain ⟨a, q1, q2, q3, q4, q5⟩ := r.lk i d h
    exact ⟨a, q1, q2, by rw [upd_ne (fun z => q3 (by rw [z]; exact hb))]; exact q3, q4, q5⟩
  · rw [upd_ne (fun z => hc (by rw [← z]; exact h))]; exact (r.cf a h).2
theorem Rel.unpin (r : Rel K (upd B p o) L w s σ H) (hb : B p = none) (hl : ∀ i a, L i = some a → a ≠ p) : Rel K B L w s σ H ∧ H p = some o ∧ p ∉ w.ca ∧ ∀ (i : Nat) d, s.e[i]? = some (some ⟨.ow, d⟩) → σ[i]? ≠ some (some (.ref p)) := by
  have nc : ∀ a, a ∈ w.ca → a ≠ p := fun a h z => by
    have q := (r.cf a h).2
    rw [z, upd_same] at q; cases q
  have bne : ∀ {a u}, B a = some u → a ≠ p := fun {a u} h z => by rw [z, hb] at h; cases h
  refine ⟨⟨r.gh, fun a u h => r.bh a u (by rw [upd_ne (bne h)]; exact h), r.len, r.sh, fun i d h => ?_, fun i d h => ?_, r.lk', r.inj, r.cn, r.cl, fun a h => ⟨(r.cf a h).1, ?_⟩, r.clen⟩, r.bh p o upd_same, fun z => nc p z rfl, fun i d h e => ?_⟩
  · obtain ⟨a, q1, q2, q3, q4, q5⟩ := r.ow i d h
    refine ⟨a, q1, q2, ?_, q4, q5⟩
    by_cases z : a = p
    · rw [z]; exact hb
    · rw [upd_ne z] at q3; exact q3
  · obtain ⟨a, q1, q2, q3, q4, q5⟩ := r.lk i d h
    exact ⟨a, q1, q2, by rw [upd_ne (hl i a q4)] at q3; exact q3, q4, q5⟩
  · have q := (r.cf a h).2
    rw [upd_ne (nc a h)] at q; exact q
  · obtain ⟨a, q1, q2, q3, q4, q5⟩ := r.ow i d h
    rw [q1] at e
    cases e
    rw [upd_same] at q3; cases q3
theorem Ext.unpin (e : Ext (upd B p o) w w') (hb : B p = none) : Ext B w w' := e.sub fun a h => by
  rw [upd_ne (fun z => h (by rw [z]; exact hb))]; exact h
theorem Ext.pinG (e : Ext (upd B p o) w w') : w'.G p = w.G p := e.f p (by rw [upd_same]; exact fun z => nomatch z)
end
/-! ### targets -/
def Tg.slots : Tg → List Nat
  | .nm i => [i]
  | .tp is => is
def gNames : List Nat → TGs
  | [] => gNil
  | i :: is => gCons (gName i) (gNames is)
def gOf (K : PySem.W.Frag) : Tg → TG
  | .nm i => gName i
  | .tp is => gTup K is.length (gNames is)
theorem asgs_go {K : PySem.W.Frag} {B : Hp} {L : Nat → Option Addr} {w : Wr} {H : Hp} : ∀ {is : List Nat} {ds : List D} {vs : List V} {s s1 : Sx} {σ : L2.St} {Q : L2.St → Hp → Prop}, asgs is ds s = some s1 → Rel K B L w s σ H → Reps K w ds vs →
    (∀ σ', Rel K B L w s1 σ' H → (∀ us : List Nat, (∀ i, i ∈ is → i ∈ us) → wipe σ' us = wipe σ us) → Q σ' H) → gNames is vs σ H Q
  | [], [], vs, s, s1, σ, Q, e, r, h, k => by
    unfold Reps at h
    subst h
    cases e
    exact ⟨rfl, k σ r fun _ _ => rfl⟩
  | [], _ :: _, vs, s, s1, σ, Q, e, r, h, k => by cases e
  | _ :: _, [], vs, s, s1, σ, Q, e, r, h, k => by cases e
  | i :: is, d :: ds, vs, s, s1, σ, Q, e, r, h, k => by
    unfold Reps at h
    obtain ⟨v, us, rfl, h1, h2⟩ := h
    unfold asgs at e
    split at e
    · rename_i s2 e2
      refine ⟨v, us, rfl, ?_⟩
      show gNames is us (σ.set i (some v)) H Q
      exact asgs_go e (r.asgS e2 h1) h2 fun σ' r' hw => k σ' r' fun ws hws => (hw ws fun j hj => hws j (List.mem_cons_of_mem _ hj)).trans (wipe_set (hws i List.mem_cons_self))
    · cases e
theorem asgT_go {K : PySem.W.Frag} {B : Hp} {L : Nat → Option Addr} {w : Wr} {H : Hp} {t : Tg} {d : D} {v : V} {s s1 : Sx} {σ : L2.St} {Q : L2.St → Hp → Prop} (e : asgT t d s = some s1) (r : Rel K B L w s σ H) (h : Rep K w d v)
    (k : ∀ σ', Rel K B L w s1 σ' H → (∀ us : List Nat, (∀ i, i ∈ t.slots → i ∈ us) → wipe σ' us = wipe σ us) → Q σ' H) : gOf K t v σ H Q := by
  cases t with
  | nm i =>
    exact k _ (r.asgS e h) fun us hus => wipe_set (hus i (by simp [Tg.slots]))
  | tp is =>
    cases d with
    | tup ds =>
      have h' := h
      unfold Rep at h'
      obtain ⟨a, vs, rfl, h1, h2⟩ := h'
      have hl : ∀ {is : List Nat} {ds : List D} {s s1 : Sx}, asgs is ds s = some s1 → ds.length = is.length := by
        intro is
        induction is with
        | nil => intro ds s s1 e; cases ds with
          | nil => rfl
          | cons _ _ => cases e
        | cons i is ih => intro ds s s1 e; cases ds with
          | nil => cases e
          | cons d ds =>
            unfold asgs at e
            split at e
            · rw [List.length_cons, List.length_cons, ih e]
            · cases e
      have e' : asgs is ds s = some s1 := e
      exact ⟨a, vs, rfl, sqT_mono r.gh h1, by rw [h2.len]; exact hl e', asgs_go e' r h2 fun σ' r' hw => k σ' r' hw⟩
    | _ => cases e
/-! ### comprehensions -/
def W0 : WX := fun _ _ _ _ => False
abbrev tCs (K : PySem.W.Frag) (cls : Str → Value) (W : WX) (F : Cf) (c : Exo) : TT := tM K cls W (evC F c) RRb
theorem xp_ok {α : Type} {K : PySem.W.Frag} {cls : Str → Value} {W : WX} {B : Hp} {L : Nat → Option Addr} {w : Wr} {σ : L2.St} {a : α} {s : Sx} : XP K cls W B L w σ (.ok a s) := fun n s' e => nomatch e
section
variable {X : Cx} {cls : Str → Value} {W : WX} {F : Cf} {pos : Pos}
theorem r_ts0 : PTs X [] (tCs X.K cls W F .none) := by
  refine ⟨fun pins s σ H Q I h => pts_nil.run pins s σ H Q I ?_⟩
  obtain ⟨B, L, w, s, o, hR, e, k, hx⟩ := h
  rw [evC] at e
  cases e
  exact k true s rfl w true H Ext.refl hR rfl
theorem r_ts1 {c : Expr} {cc : Ex} (h : PT X c (tTr X.K cls W F cc)) : PTs X [c] (tCs X.K cls W F (.some cc)) := by
  refine ⟨fun pins s σ H Q I hw => (pts_one h).run pins s σ H Q I ?_⟩
  obtain ⟨B, L, w, s, o, hR, e, k, hx⟩ := hw
  rw [evC] at e
  exact ⟨B, L, w, s, o, hR, e, k, hx⟩
theorem setK_get {i j : Nat} {k k1 : Kd} {d : D} {s : Sx} (h : (setK i k s).e[j]? = some (some ⟨k1, d⟩)) : ∃ k', s.e[j]? = some (some ⟨k', d⟩) := by
  unfold setK at h
  split at h
  · rename_i sl e
    have h' : (s.e.set i (some ⟨k, sl.d⟩))[j]? = some (some ⟨k1, d⟩) := h
    by_cases z : j = i
    · subst z
      rw [List.getElem?_set_self (List.getElem?_eq_some_iff.mp e).1] at h'
      cases h'
      exact ⟨sl.k, e⟩
    · rw [List.getElem?_set_ne (Ne.symm z)] at h'
      exact ⟨k1, h'⟩
  · exact ⟨k1, h⟩
theorem unlock_get {j : Nat} {k1 : Kd} {d : D} : ∀ {ls : List Nat} {s : Sx}, (unlock ls s).e[j]? = some (some ⟨k1, d⟩) → ∃ k', s.e[j]? = some (some ⟨k', d⟩)
  | [], s, h => ⟨k1, h⟩
  | i :: ls, s, h => by
    obtain ⟨k', h'⟩ := unlock_get (ls := ls) (s := if i < 1000000 then setK i .ow s else s) h
    split at h'
    · exact setK_get h'
    · exact ⟨k', h'⟩
theorem noOwn_getD {e : List (Option Sl)} {j : Nat} {d : D} : ∀ {vs : List Nat}, noOwn e vs = true → j ∈ vs → e.getD j none ≠ some ⟨.ow, d⟩
  | [], _, h => by cases h
  | v :: vs, h, hj => by
    unfold noOwn at h
    rw [Bool.and_eq_true] at h
    rcases List.mem_cons.mp hj with rfl | hj
    · intro z
      rw [List.getD_eq_getElem?_getD] at z
      cases q : e[j]? with
      | none => rw [q] at z; cases z
      | some x =>
        rw [q] at z
        have z' : x = some ⟨.ow, d⟩ := z
        subst z'
        rw [q] at h
        cases h.1
    · exact noOwn_getD h.2 hj
theorem gdT_some {α : Type} {ls : List Nat} {ds : List D} {b : Sx → Option (Out α)} {s : Sx} {a : α} {s' : Sx} (e : gdT ls ds b s = some (.ok a s')) : b s = some (.ok a s') ∧ GdOk ls ds s' := by
  unfold gdT at e
  split at e
  · rename_i hb
    split at e
    · rename_i hg
      cases e
      exact ⟨hb, hg⟩
    · cases e
  · rename_i h
    exact absurd e (h _ _)
theorem r_lc_rd {src : Src} {t : Tg} {celt : Ex} {ct : Exo} {vs : List Nat} (hts : ∀ i, i ∈ t.slots → i ∈ vs) {σ : L2.St} {H : Hp} {Q : VK} (h : tE X.K cls W F (.lc vs celt t src ct) σ H Q) :
    tLc (tSrc X.K cls W F src) (gOf X.K t) (tCs X.K cls W0 F ct) (tE X.K cls W0 F celt) vs σ H Q := by
  obtain ⟨B, L, w, s, o, hR, e, k, hx⟩ := h
  rw [evE] at e
  rcases bd_inv e with ⟨p, s1, h1, e1⟩ | ⟨n, s1, h1, rfl⟩
  · refine ⟨B, L, w, s, _, hR, h1, fun p' s' eo w1 H1 J x1 R1 sr q0 hD => ?_, fun n s' eo => (nomatch eo)⟩
    cases eo
    obtain ⟨B', L', lkd, wk, gd0⟩ := sr
    have R0 := lkd.rel
    split at e1
    · rename_i hno
      split at e1
      · rename_i ys s2 hl
        cases e1
        have hv : ∀ i, i ∈ vs → L' i = none := fun i hi => by
          cases hL : L' i with
          | none => rfl
          | some a =>
            obtain ⟨d, q⟩ := R0.lk' i a hL
            have : ∀ {us : List Nat}, i ∈ us → noOwn (lock p.2 s1).e us = true → False := by
              intro us
              induction us with
              | nil => intro z; cases z
              | cons u us ih =>
                intro z hn
                unfold noOwn at hn
                rw [Bool.and_eq_true] at hn
                rcases List.mem_cons.mp z with rfl | z
                · rw [q] at hn; cases hn.1
                · exact ih z hn.2
            exact (this hi hno).elim
        obtain ⟨f1, f2, f3⟩ := R0.freshNot hD
        have fo := R0.freshNotOw hD
        have lD : ∀ i a, L' i = some a → a ≠ q0 := fun i a hL z => by
          obtain ⟨d, q⟩ := R0.lk' i a hL
          obtain ⟨a', _, _, _, q4, q5⟩ := R0.lk i d q
          rw [hL] at q4
          cases q4
          obtain ⟨u, hu⟩ := q5.there
          rw [z, hD] at hu; cases hu
        refine ⟨fun i m H => m = p.1.length - i ∧ ∃ w2 s3 acc va, Ext B' w1 w2 ∧ Rel X.K B' L' w2 { s3 with e := wipeE s3.e vs } (wipe σ vs) H ∧ H q0 = some (.lst va) ∧ Reps X.K w2 acc va ∧ w2.G q0 = none ∧ q0 ∉ w2.ca ∧
          (∀ (j : Nat) d, (wipeE s3.e vs)[j]? = some (some ⟨.ow, d⟩) → (wipe σ vs)[j]? ≠ some (some (.ref q0))) ∧
          i ≤ p.1.length ∧ GdOk p.2 p.1 s3 ∧ lcL t (gdT p.2 p.1 (evC F ct)) (gdT p.2 p.1 (bd (evE F celt) esc)) vs (p.1.drop i) acc s3 = some (.ok ys s2), ⟨p.1.length, by simp, w1, lock p.2 s1, [], [], Ext.refl, (R0.beside hD).wiped hv, upd_same, Reps.nil, f1, f3, (fun j d hj => ?_), Nat.zero_le _, gd_c lock_c gd0, hl⟩, ?_⟩
        · rw [wipeE_get] at hj
          rw [wipe_get]
          by_cases z : j ∈ vs
          · rw [if_pos z] at hj
            split at hj <;> cases hj
          · rw [if_neg z] at hj ⊢
            exact fo j d hj
        rintro i m H2 ⟨rfl, w2, s3, acc, va, x2, R2, hHD, hrep, g1, g3, gn, hi, gd3, hlc⟩
        have P2 := R2.pin (o := .lst va) hHD f2 g3 gn
        have bb : ∀ a, B' a ≠ none → upd B' q0 (.lst va) a = B' a := fun a h => upd_ne (fun z => h (by rw [z]; exact f2))
        have xp2 : Ext (upd B' q0 (.lst va)) w1 w2 := ⟨x2.toGr, fun a h => by
          by_cases z : a = q0
          · rw [z, g1, f1]
          · rw [upd_ne z] at h; exact x2.f a h⟩
        obtain ⟨step, stop⟩ := wk _ L' w2 _ _ H2 bb xp2 P2 (gd_c (s := s3) rfl gd3) i
        by_cases hlt : i < p.1.length
        · -- a turn
          obtain ⟨d, hd⟩ : ∃ d, p.1[i]? = some d := ⟨_, List.getElem?_eq_getElem hlt⟩
          obtain ⟨go, yl⟩ := step d hd
          have edrop : p.1.drop i = d :: p.1.drop (i + 1) := by
            rw [List.drop_eq_getElem_cons hlt]
            rw [List.getElem?_eq_getElem hlt] at hd
            cases hd
            rfl
          rw [edrop] at hlc
          unfold lcL at hlc
          refine .inr ⟨go, _, fun H' hN => ⟨p.1.length - (i + 1), by omega, rfl, hN⟩, fun x H3 hy => ?_⟩
          obtain ⟨w3, x3, R3, rp⟩ := yl x H3 hy
          split at hlc
          · cases hlc
          · rename_i s4 ha
            refine asgT_go ha R3 rp fun σ4 R4 hw4 => ?_
            have e4 : wipe σ4 vs = wipe σ vs := (hw4 vs hts).trans wipe_wipe
            refine ⟨e4, ?_⟩
            -- what the next turn starts from
            have next : ∀ {s5 : Sx} {w5 : Wr} {H5 : Hp} {acc' : List D} {va' : List V}, Ext (upd B' q0 (.lst va)) w3 w5 → Rel X.K (upd B' q0 (.lst va)) L' w5 s5 σ4 H5 → Reps X.K w5 acc' va' → GdOk p.2 p.1 s5 → lcL t (gdT p.2 p.1 (evC F ct)) (gdT p.2 p.1 (bd (evE F celt) esc)) vs (p.1.drop (i + 1)) acc' s5 = some (.ok ys s2) → ∀ H6, Rel X.K B' L' w5 s5 σ4 H6 → H6 q0 = some (.lst va') →
                ∃ w2 s3 acc va, Ext B' w1 w2 ∧ Rel X.K B' L' w2 { s3 with e := wipeE s3.e vs } (wipe σ vs) H6 ∧ H6 q0 = some (.lst va) ∧ Reps X.K w2 acc va ∧ w2.G q0 = none ∧ q0 ∉ w2.ca ∧
                (∀ (j : Nat) d, (wipeE s3.e vs)[j]? = some (some ⟨.ow, d⟩) → (wipe σ vs)[j]? ≠ some (some (.ref q0))) ∧ i + 1 ≤ p.1.length ∧ GdOk p.2 p.1 s3 ∧ lcL t (gdT p.2 p.1 (evC F ct)) (gdT p.2 p.1 (bd (evE F celt) esc)) vs (p.1.drop (i + 1)) acc s3 = some (.ok ys s2) := fun {s5 w5 H5 acc' va'} x5 R5 rp5 gd5 hl5 H6 R6 hD6 => by
              obtain ⟨_, _, u3, u4⟩ := R5.unpin f2 lD
              have g5 : w5.G q0 = none := by rw [x5.pinG, x3.pinG]; exact g1
              refine ⟨w5, s5, acc', va', x2.trans ((x3.trans x5).unpin f2), by rw [← e4]; exact R6.wiped hv, hD6, rp5, g5, u3, fun j d hj => ?_, hlt, gd5, hl5⟩
              rw [← e4]
              rw [wipeE_get] at hj
              rw [wipe_get]
              by_cases z : j ∈ vs
              · rw [if_pos z] at hj
                split at hj <;> cases hj
              · rw [if_neg z] at hj ⊢
                exact u4 j d hj
            split at hlc
            · -- it is taken
              rename_i s5 ht0
              obtain ⟨ht, gd5⟩ := gdT_some ht0
              refine ⟨upd B' q0 (.lst va), L', w3, s4, _, R4, ht, fun b s' eo w5 b' H5 x5 R5 hb => ?_, xp_ok⟩
              cases eo
              have hb' : true = b' := hb
              subst hb'
              rw [if_pos rfl]
              split at hlc
              · rename_i y s6 he0
                obtain ⟨he, gd6⟩ := gdT_some he0
                split at hlc
                · rename_i hz
                  refine tE_bd R5 he xp_ok fun r s7 w7 v7 H7 x7 R7 o7 e7 _ => ?_
                  obtain ⟨y', s8, w8, ey, x8, R8, rp8, c8⟩ := esc_ok (d := .non) R7 o7 e7
                  cases ey
                  have x58 := x5.trans (x7.trans x8)
                  obtain ⟨u1, u2, u3, u4⟩ := R8.unpin f2 lD
                  have hacc : Reps X.K w8 acc va := hrep.mono (x3.trans x58).toGr
                  have g8 : w8.G q0 = none := by rw [x58.pinG, x3.pinG]; exact g1
                  refine ⟨va, u2, by rw [hacc.len, sizeLine_eq]; exact hz, ?_⟩
                  refine next x58 R8 (hacc.app (Reps.one rp8)) gd6 hlc _ ?_ upd_same
                  -- the list takes one more
                  refine ⟨fun a u h => ?_, fun a u h => ?_, u1.len, u1.sh, fun j d h => ?_, fun j d h => ?_, u1.lk', u1.inj, u1.cn, fun n ds h => ?_, u1.cf, u1.clen⟩
                  · rw [upd_ne (fun z => by rw [z, g8] at h; cases h)]; exact u1.gh a u h
                  · rw [upd_ne (fun z => by rw [z, f2] at h; cases h)]; exact u1.bh a u h
                  · obtain ⟨a, q1, q2, q3, q4, q5⟩ := u1.ow j d h
                    exact ⟨a, q1, q2, q3, q4, q5.mono Gr.refl (upd_ne fun z => u4 j d h (by rw [← z]; exact q1))⟩
                  · obtain ⟨a, q1, q2, q3, q4, q5⟩ := u1.lk j d h
                    exact ⟨a, q1, q2, q3, q4, q5.mono Gr.refl (upd_ne (lD j a q4))⟩
                  · obtain ⟨a, us, q1, q2, q3⟩ := u1.cl n ds h
                    exact ⟨a, us, q1, by rw [upd_ne (fun z => u3 (by rw [← z]; exact List.mem_of_getElem? q1))]; exact q2, q3⟩
                · cases hlc
              · cases hlc
            · -- it is left out
              rename_i s5 ht0
              obtain ⟨ht, gd5⟩ := gdT_some ht0
              refine ⟨upd B' q0 (.lst va), L', w3, s4, _, R4, ht, fun b s' eo w5 b' H5 x5 R5 hb => ?_, xp_ok⟩
              cases eo
              have hb' : false = b' := hb
              subst hb'
              rw [if_neg Bool.false_ne_true]
              obtain ⟨u1, u2, u3, u4⟩ := R5.unpin f2 lD
              exact next x5 R5 (hrep.mono (x3.trans x5).toGr) gd5 hlc _ u1 u2
            · cases hlc
        · have ei : i = p.1.length := by omega
          subst ei
          refine .inl ⟨stop (List.getElem?_eq_none (Nat.le_refl _)), ?_⟩
          rw [List.drop_length] at hlc
          unfold lcL at hlc
          cases hlc
          have R3 : Rel X.K B' L' w2 { e := unwipe (lock p.2 s1).e vs (wipeE s2.e vs), c := s2.c } σ H2 := Rel.unwiped R0 R2 rfl x2.toGr hno hv
          have eu : unwipe (lock p.2 s1).e vs (wipeE s2.e vs) = unwipe (lock p.2 s1).e vs s2.e := by
            refine List.ext_getElem? fun j => ?_
            rw [unwipe_get, unwipe_get, wipeE_get, wipeE_len]
            by_cases z : j ∈ vs
            · rw [if_pos z, if_pos z]
            · rw [if_neg z, if_neg z, if_neg z]
          rw [eu] at R3
          obtain ⟨e5, R5⟩ := lkd.back w2 _ σ H2 x2 R3
          refine k _ _ rfl w2 _ H2 (x1.trans e5) R5 ⟨q0, rfl, g1, ?_, g3, ⟨va, hHD, hrep⟩, fun j d' hj ho => ?_⟩
          · cases hb : B q0 with
            | none => rfl
            | some u =>
              have := lkd.sub q0 (by rw [hb]; exact fun z => nomatch z)
              rw [f2, hb] at this; cases this
          · -- an own slot at the end: own, or locked by us
            obtain ⟨k', hj'⟩ := unlock_get hj
            have hd' : Own X.K w2 H2 q0 d' := by
              obtain ⟨a, q1, _, _, _, q5⟩ := R5.ow j d' hj
              rw [ho] at q1
              cases q1
              exact q5
            cases k' with
            | ow =>
              have hj2 : (unwipe (lock p.2 s1).e vs s2.e)[j]? = some (some ⟨.ow, d'⟩) := hj'
              rw [← eu] at hj2
              have z : j ∉ vs := fun z => by
                rw [unwipe_get, if_pos z] at hj2
                split at hj2
                · exact noOwn_getD hno z (Option.some.inj hj2)
                · cases hj2
              rw [unwipe_get, if_neg z] at hj2
              refine gn j d' hj2 ?_
              rw [wipe_get, if_neg z]
              exact ho
            | lk =>
              obtain ⟨a, q1, _, _, q4, _⟩ := R3.lk j d' hj'
              rw [ho] at q1
              cases q1
              exact lD j q0 q4 rfl
            | sh =>
              obtain ⟨v, q1, q2⟩ := R3.sh j d' hj'
              rw [ho] at q1
              cases q1
              cases d' with
              | lst ds =>
                unfold Rep at q2
                obtain ⟨a, us, e, q3, _⟩ := q2
                cases e
                rw [g1] at q3; cases q3
              | dct _ => unfold Rep at q2; exact q2
              | _ => exact hd'
      · cases e1
    · cases e1
  · refine ⟨B, L, w, s, _, hR, h1, fun p' s' eo => (nomatch eo), fun n s' eo w' H' ex R' => by cases eo; exact hx n _ rfl w' H' ex R'⟩
theorem unwipe_wipe {e e' : List (Option Sl)} {vs : List Nat} : unwipe e vs (wipeE e' vs) = unwipe e vs e' := by
  refine List.ext_getElem? fun j => ?_
  rw [unwipe_get, unwipe_get, wipeE_get, wipeE_len]
  by_cases z : j ∈ vs
  · rw [if_pos z, if_pos z]
  · rw [if_neg z, if_neg z, if_neg z]
theorem gdT_exc {α : Type} {ls : List Nat} {ds : List D} {b : Sx → Option (Out α)} {s : Sx} {n : Str} {s' : Sx} (e : gdT ls ds b s = some (.exc n s')) : b s = some (.exc n s') := by
  unfold gdT at e
  split at e
  · split at e <;> cases e
  · exact e
theorem r_lcx_rd {src : Src} {t : Tg} {celt : Ex} {vs : List Nat} (hts : ∀ i, i ∈ t.slots → i ∈ vs) {σ : L2.St} {H : Hp} {Q : VK} (h : tE X.K cls W F (.lcx vs celt t src) σ H Q) :
    tLc (tSrc X.K cls W F src) (gOf X.K t) tYes (tE X.K cls (fun c d _ H => W c d σ H) F celt) vs σ H Q := by
  obtain ⟨B, L, w, s, o, hR, e, k, hx⟩ := h
  rw [evE] at e
  rcases bd_inv e with ⟨p, s1, h1, e1⟩ | ⟨n, s1, h1, rfl⟩
  · refine ⟨B, L, w, s, _, hR, h1, fun p' s' eo w1 H1 J x1 R1 sr q0 hD => ?_, fun n s' eo => (nomatch eo)⟩
    cases eo
    obtain ⟨B', L', lkd, wk, gd0⟩ := sr
    have R0 := lkd.rel
    split at e1
    · rename_i hno
      cases hl : lcLx t (gdT p.2 p.1 (bd (evE F celt) esc)) vs p.1 [] (lock p.2 s1) with
      | none => rw [hl] at e1; cases e1
      | some fin =>
        rw [hl] at e1
        have hv : ∀ i, i ∈ vs → L' i = none := fun i hi => by
          cases hL : L' i with
          | none => rfl
          | some a =>
            obtain ⟨d, q⟩ := R0.lk' i a hL
            have : ∀ {us : List Nat}, i ∈ us → noOwn (lock p.2 s1).e us = true → False := by
              intro us
              induction us with
              | nil => intro z; cases z
              | cons u us ih =>
                intro z hn
                unfold noOwn at hn
                rw [Bool.and_eq_true] at hn
                rcases List.mem_cons.mp z with rfl | z
                · rw [q] at hn; cases hn.1
                · exact ih z hn.2
            exact (this hi hno).elim
        obtain ⟨f1, f2, f3⟩ := R0.freshNot hD
        have fo := R0.freshNotOw hD
        have lD : ∀ i a, L' i = some a → a ≠ q0 := fun i a hL z => by
          obtain ⟨d, q⟩ := R0.lk' i a hL
          obtain ⟨a', _, _, _, q4, q5⟩ := R0.lk i d q
          rw [hL] at q4
          cases q4
          obtain ⟨u, hu⟩ := q5.there
          rw [z, hD] at hu; cases hu
        refine ⟨fun i m H => m = p.1.length - i ∧ ∃ w2 s3 acc va, Ext B' w1 w2 ∧ Rel X.K B' L' w2 { s3 with e := wipeE s3.e vs } (wipe σ vs) H ∧ H q0 = some (.lst va) ∧ Reps X.K w2 acc va ∧ w2.G q0 = none ∧ q0 ∉ w2.ca ∧
          (∀ (j : Nat) d, (wipeE s3.e vs)[j]? = some (some ⟨.ow, d⟩) → (wipe σ vs)[j]? ≠ some (some (.ref q0))) ∧
          i ≤ p.1.length ∧ GdOk p.2 p.1 s3 ∧ lcLx t (gdT p.2 p.1 (bd (evE F celt) esc)) vs (p.1.drop i) acc s3 = some fin, ⟨p.1.length, by simp, w1, lock p.2 s1, [], [], Ext.refl, (R0.beside hD).wiped hv, upd_same, Reps.nil, f1, f3, (fun j d hj => ?_), Nat.zero_le _, gd_c lock_c gd0, hl⟩, ?_⟩
        · rw [wipeE_get] at hj
          rw [wipe_get]
          by_cases z : j ∈ vs
          · rw [if_pos z] at hj
            split at hj <;> cases hj
          · rw [if_neg z] at hj ⊢
            exact fo j d hj
        rintro i m H2 ⟨rfl, w2, s3, acc, va, x2, R2, hHD, hrep, g1, g3, gn, hi, gd3, hlc⟩
        have P2 := R2.pin (o := .lst va) hHD f2 g3 gn
        have bb : ∀ a, B' a ≠ none → upd B' q0 (.lst va) a = B' a := fun a h => upd_ne (fun z => h (by rw [z]; exact f2))
        have xp2 : Ext (upd B' q0 (.lst va)) w1 w2 := ⟨x2.toGr, fun a h => by
          by_cases z : a = q0
          · rw [z, g1, f1]
          · rw [upd_ne z] at h; exact x2.f a h⟩
        obtain ⟨step, stop⟩ := wk _ L' w2 _ _ H2 bb xp2 P2 (gd_c (s := s3) rfl gd3) i
        by_cases hlt : i < p.1.length
        · -- a turn
          obtain ⟨d, hd⟩ : ∃ d, p.1[i]? = some d := ⟨_, List.getElem?_eq_getElem hlt⟩
          obtain ⟨go, yl⟩ := step d hd
          have edrop : p.1.drop i = d :: p.1.drop (i + 1) := by
            rw [List.drop_eq_getElem_cons hlt]
            rw [List.getElem?_eq_getElem hlt] at hd
            cases hd
            rfl
          rw [edrop] at hlc
          unfold lcLx at hlc
          refine .inr ⟨go, _, fun H' hN => ⟨p.1.length - (i + 1), by omega, rfl, hN⟩, fun x H3 hy => ?_⟩
          obtain ⟨w3, x3, R3, rp⟩ := yl x H3 hy
          split at hlc
          · cases hlc
          · rename_i s4 ha
            refine asgT_go ha R3 rp fun σ4 R4 hw4 => ?_
            have e4 : wipe σ4 vs = wipe σ vs := (hw4 vs hts).trans wipe_wipe
            refine ⟨e4, ?_⟩
            -- what the next turn starts from
            have next : ∀ {s5 : Sx} {w5 : Wr} {H5 : Hp} {acc' : List D} {va' : List V}, Ext (upd B' q0 (.lst va)) w3 w5 → Rel X.K (upd B' q0 (.lst va)) L' w5 s5 σ4 H5 → Reps X.K w5 acc' va' → GdOk p.2 p.1 s5 → lcLx t (gdT p.2 p.1 (bd (evE F celt) esc)) vs (p.1.drop (i + 1)) acc' s5 = some fin → ∀ H6, Rel X.K B' L' w5 s5 σ4 H6 → H6 q0 = some (.lst va') →
                ∃ w2 s3 acc va, Ext B' w1 w2 ∧ Rel X.K B' L' w2 { s3 with e := wipeE s3.e vs } (wipe σ vs) H6 ∧ H6 q0 = some (.lst va) ∧ Reps X.K w2 acc va ∧ w2.G q0 = none ∧ q0 ∉ w2.ca ∧
                (∀ (j : Nat) d, (wipeE s3.e vs)[j]? = some (some ⟨.ow, d⟩) → (wipe σ vs)[j]? ≠ some (some (.ref q0))) ∧ i + 1 ≤ p.1.length ∧ GdOk p.2 p.1 s3 ∧ lcLx t (gdT p.2 p.1 (bd (evE F celt) esc)) vs (p.1.drop (i + 1)) acc s3 = some fin := fun {s5 w5 H5 acc' va'} x5 R5 rp5 gd5 hl5 H6 R6 hD6 => by
              obtain ⟨_, _, u3, u4⟩ := R5.unpin f2 lD
              have g5 : w5.G q0 = none := by rw [x5.pinG, x3.pinG]; exact g1
              refine ⟨w5, s5, acc', va', x2.trans ((x3.trans x5).unpin f2), by rw [← e4]; exact R6.wiped hv, hD6, rp5, g5, u3, fun j d hj => ?_, hlt, gd5, hl5⟩
              rw [← e4]
              rw [wipeE_get] at hj
              rw [wipe_get]
              by_cases z : j ∈ vs
              · rw [if_pos z] at hj
                split at hj <;> cases hj
              · rw [if_neg z] at hj ⊢
                exact u4 j d hj
            simp only [tYes, if_true]
            split at hlc
            · rename_i y s6 he0
              obtain ⟨he, gd6⟩ := gdT_some he0
              split at hlc
              · rename_i hz
                refine tE_bd R4 he xp_ok fun r s7 w7 v7 H7 x7 R7 o7 e7 _ => ?_
                obtain ⟨y', s8, w8, ey, x8, R8, rp8, c8⟩ := esc_ok (d := .non) R7 o7 e7
                cases ey
                have x58 := x7.trans x8
                obtain ⟨u1, u2, u3, u4⟩ := R8.unpin f2 lD
                have hacc : Reps X.K w8 acc va := hrep.mono (x3.trans x58).toGr
                have g8 : w8.G q0 = none := by rw [x58.pinG, x3.pinG]; exact g1
                refine ⟨va, u2, by rw [hacc.len, sizeLine_eq]; exact hz, ?_⟩
                refine next x58 R8 (hacc.app (Reps.one rp8)) gd6 hlc _ ?_ upd_same
                refine ⟨fun a u h => ?_, fun a u h => ?_, u1.len, u1.sh, fun j d h => ?_, fun j d h => ?_, u1.lk', u1.inj, u1.cn, fun n ds h => ?_, u1.cf, u1.clen⟩
                · rw [upd_ne (fun z => by rw [z, g8] at h; cases h)]; exact u1.gh a u h
                · rw [upd_ne (fun z => by rw [z, f2] at h; cases h)]; exact u1.bh a u h
                · obtain ⟨a, q1, q2, q3, q4, q5⟩ := u1.ow j d h
                  exact ⟨a, q1, q2, q3, q4, q5.mono Gr.refl (upd_ne fun z => u4 j d h (by rw [← z]; exact q1))⟩
                · obtain ⟨a, q1, q2, q3, q4, q5⟩ := u1.lk j d h
                  exact ⟨a, q1, q2, q3, q4, q5.mono Gr.refl (upd_ne (lD j a q4))⟩
                · obtain ⟨a, us, q1, q2, q3⟩ := u1.cl n ds h
                  exact ⟨a, us, q1, by rw [upd_ne (fun z => u3 (by rw [← z]; exact List.mem_of_getElem? q1))]; exact q2, q3⟩
              · cases hlc
            · -- it raises
              rename_i n s6 he0
              have he := gdT_exc he0
              have hlc' : some (Out.exc n s6) = some fin := hlc
              cases hlc'
              have e1' : some (Out.exc n (unlock p.2 { s6 with e := unwipe (lock p.2 s1).e vs s6.e })) = some o := e1
              cases e1'
              refine tE_bd R4 he (fun n' s'' eo w' H' x' R' => ?_) fun r s7 w7 v7 H7 x7 R7 o7 e7 _ => ?_
              · cases eo
                show W (cls n) none σ H'
                obtain ⟨u1, _, _, _⟩ := R'.unpin f2 lD
                have xx : Ext B' w1 w' := x2.trans ((x3.trans x').unpin f2)
                have R2' := u1.wiped hv
                rw [e4] at R2'
                have R3' : Rel X.K B' L' w' { e := unwipe (lock p.2 s1).e vs (wipeE s6.e vs), c := s6.c } σ H' := Rel.unwiped R0 R2' rfl xx.toGr hno hv
                rw [unwipe_wipe] at R3'
                obtain ⟨e5, R5⟩ := lkd.back w' _ σ H' xx R3'
                exact hx n _ rfl w' H' (x1.trans e5) R5
              · obtain ⟨y', s8, w8, ey, _⟩ := esc_ok (d := .non) R7 o7 e7
                cases ey
            · cases hlc
        · have ei : i = p.1.length := by omega
          subst ei
          refine .inl ⟨stop (List.getElem?_eq_none (Nat.le_refl _)), ?_⟩
          rw [List.drop_length] at hlc
          have hlc' : some (Out.ok acc s3) = some fin := hlc
          cases hlc'
          have e1' : some (Out.ok (R.fr (.lst acc)) (unlock p.2 { s3 with e := unwipe (lock p.2 s1).e vs s3.e })) = some o := e1
          cases e1'
          have R3 : Rel X.K B' L' w2 { e := unwipe (lock p.2 s1).e vs (wipeE s3.e vs), c := s3.c } σ H2 := Rel.unwiped R0 R2 rfl x2.toGr hno hv
          have eu := unwipe_wipe (e := (lock p.2 s1).e) (vs := vs) (e' := s3.e)
          rw [eu] at R3
          obtain ⟨e5, R5⟩ := lkd.back w2 _ σ H2 x2 R3
          refine k _ _ rfl w2 _ H2 (x1.trans e5) R5 ⟨q0, rfl, g1, ?_, g3, ⟨va, hHD, hrep⟩, fun j d' hj ho => ?_⟩
          · cases hb : B q0 with
            | none => rfl
            | some u =>
              have := lkd.sub q0 (by rw [hb]; exact fun z => nomatch z)
              rw [f2, hb] at this; cases this
          · -- an own slot at the end: own, or locked by us
            obtain ⟨k', hj'⟩ := unlock_get hj
            have hd' : Own X.K w2 H2 q0 d' := by
              obtain ⟨a, q1, _, _, _, q5⟩ := R5.ow j d' hj
              rw [ho] at q1
              cases q1
              exact q5
            cases k' with
            | ow =>
              have hj2 : (unwipe (lock p.2 s1).e vs s3.e)[j]? = some (some ⟨.ow, d'⟩) := hj'
              rw [← eu] at hj2
              have z : j ∉ vs := fun z => by
                rw [unwipe_get, if_pos z] at hj2
                split at hj2
                · exact noOwn_getD hno z (Option.some.inj hj2)
                · cases hj2
              rw [unwipe_get, if_neg z] at hj2
              refine gn j d' hj2 ?_
              rw [wipe_get, if_neg z]
              exact ho
            | lk =>
              obtain ⟨a, q1, _, _, q4, _⟩ := R3.lk j d' hj'
              rw [ho] at q1
              cases q1
              exact lD j q0 q4 rfl
            | sh =>
              obtain ⟨v, q1, q2⟩ := R3.sh j d' hj'
              rw [ho] at q1
              cases q1
              cases d' with
              | lst ds =>
                unfold Rep at q2
                obtain ⟨a, us, e, q3, _⟩ := q2
                cases e
                rw [g1] at q3; cases q3
              | dct _ => unfold Rep at q2; exact q2
              | _ => exact hd'
    · cases e1
  · refine ⟨B, L, w, s, _, hR, h1, fun p' s' eo => (nomatch eo), fun n s' eo w' H' ex R' => by cases eo; exact hx n _ rfl w' H' ex R'⟩
end
end PV
set_option maxHeartbeats 4000000
/-! Statements. -/
namespace PV
open PySem PySem.Spec PyProof.Rows L2
section
variable {K : PySem.W.Frag} {cls : Str → Value} {W : WX} {B : Hp} {L : Nat → Option Addr} {w w' : Wr} {s s' : Sx} {σ : L2.St} {H H' : Hp}
/-- what is wanted behind a statement -/
def FlOk (K : PySem.W.Frag) (cls : Str → Value) (W : WX) (B : Hp) (L : Nat → Option Addr) (w : Wr) (D : Ends) : Fl → Prop
  | .nx s' => ∀ w' σ' H', Ext B w w' → Rel K B L w' s' σ' H' → D.nx σ' H'
  | .brk s' => ∀ w' σ' H', Ext B w w' → Rel K B L w' s' σ' H' → D.bk σ' H'
  | .cnt s' => ∀ w' σ' H', Ext B w w' → Rel K B L w' s' σ' H' → D.ct σ' H'
  | .ret r s' => ∀ w' σ' v H', Ext B w w' → Rel K B L w' s' σ' H' → ResOk K B w' s' σ' H' r v → D.rt v H'
  | .exc n s' => ∀ w' σ' H', Ext B w w' → Rel K B L w' s' σ' H' → W (cls n) none σ' H'
theorem FlOk.mono {D : Ends} {f : Fl} (h : FlOk K cls W B L w D f) (e : Ext B w w') : FlOk K cls W B L w' D f := by
  cases f with
  | nx s' => exact fun w2 σ' H' x r => h w2 σ' H' (e.trans x) r
  | brk s' => exact fun w2 σ' H' x r => h w2 σ' H' (e.trans x) r
  | cnt s' => exact fun w2 σ' H' x r => h w2 σ' H' (e.trans x) r
  | ret r s' => exact fun w2 σ' v H' x r' o => h w2 σ' v H' (e.trans x) r' o
  | exc n s' => exact fun w2 σ' H' x r => h w2 σ' H' (e.trans x) r
def tSt (K : PySem.W.Frag) (cls : Str → Value) (W : WX) (F : Cf) (c : St) : TS := fun D σ H => ∃ B L w s f, Rel K B L w s σ H ∧ evS F c s = some f ∧ FlOk K cls W B L w D f
def tSts (K : PySem.W.Frag) (cls : Str → Value) (W : WX) (F : Cf) (c : Sts) : TS := fun D σ H => ∃ B L w s f, Rel K B L w s σ H ∧ evSs F c s = some f ∧ FlOk K cls W B L w D f
theorem PSsm {X : Cx} {e : List Stmt} {t t' : TS} (h : PSs X e t) (f : ∀ D σ H, t' D σ H → t D σ H) : PSs X e t' := ⟨fun pins s σ H D I q => h.run pins s σ H D I (f D σ H q)⟩
theorem out_bd {α β : Type} {m : M α} {g : α → Sx → Option Fl} {RR : Hp → Wr → Sx → L2.St → Hp → α → β → Prop} {D : Ends} {f : Fl} {Q : β → Hp → Prop} (hR : Rel K B L w s σ H) (e : outS (m s) g = some f) (hf : FlOk K cls W B L w D f)
    (k : ∀ a s1 w1 b H1, m s = some (.ok a s1) → Ext B w w1 → Rel K B L w1 s1 σ H1 → RR B w1 s1 σ H1 a b → g a s1 = some f → FlOk K cls W B L w1 D f → Q b H1) : tM K cls W m RR σ H Q := by
  cases hm : m s with
  | none => rw [hm] at e; cases e
  | some o =>
    rw [hm] at e
    refine ⟨B, L, w, s, o, hR, hm, fun a s' eo w' b H' ex R' hr => ?_, fun n s' eo w' H' ex R' => ?_⟩
    · subst eo
      exact k a s' w' b H' hm ex R' hr e (hf.mono ex)
    · subst eo
      have e' : some (Fl.exc n s') = some f := e
      cases e'
      exact hf w' σ H' ex R'
/-- .. an expression that none owns any more -/
theorem outE_bd {F : Cf} {c : Ex} {g : R → Sx → Option Fl} {D : Ends} {f : Fl} {Q : V → Hp → Prop} (hR : Rel K B L w s σ H) (e : outS (evE F c s) g = some f) (hf : FlOk K cls W B L w D f)
    (k : ∀ a s1 w1 b H1, Ext B w w1 → Rel K B L w1 s1 σ H1 → OpOk K w1 σ a b → g a s1 = some f → FlOk K cls W B L w1 D f → Q b H1) : tE K cls W F c σ H Q :=
  out_bd hR e hf fun a s1 w1 b H1 _ ex R1 hr e1 hf1 => by
    obtain ⟨w2, ex2, R2, o2⟩ := R1.norm hr
    exact k a s1 w2 b H1 (ex.trans ex2) R2 o2 e1 (hf1.mono ex2)
theorem outS_bd {α β : Type} {m : M α} {h : α → M β} {s : Sx} {g : β → Sx → Option Fl} : outS (bd m h s) g = outS (m s) fun a s1 => outS (h a s1) g := by
  unfold outS bd
  cases m s with
  | none => rfl
  | some o => cases o <;> rfl
theorem outS_some {α : Type} {m : M α} {g : α → Sx → Option Fl} {f : Fl} (e : outS (m s) g = some f) : (∃ a s1, m s = some (.ok a s1) ∧ g a s1 = some f) ∨ ∃ n s1, m s = some (.exc n s1) ∧ f = .exc n s1 := by
  unfold outS at e
  cases h : m s with
  | none => rw [h] at e; cases e
  | some o =>
    rw [h] at e
    cases o with
    | ok a s1 => exact .inl ⟨a, s1, rfl, e⟩
    | exc n s1 => cases e; exact .inr ⟨n, s1, rfl, rfl⟩
/-- a name is given a value -/
theorem asgR_ok {i : Nat} {r : R} {v : V} {s1 : Sx} (R1 : Rel K B L w s σ H) (o : ResOk K B w s σ H r v) (e : asgR i r s = some s1) : ∃ w', Ext B w w' ∧ Rel K B L w' s1 (σ.set i (some v)) H := by
  cases r with
  | sh d => exact ⟨w, Ext.refl, R1.asgS e o⟩
  | fr d => exact ⟨w, Ext.refl, R1.asgO e o⟩
  | nm j =>
    have e : (match esc (.nm j) s with
      | some (.ok d s') => asgD i .sh d s'
      | _ => none) = some s1 := e
    cases he : esc (.nm j) s with
    | none => rw [he] at e; cases e
    | some q =>
      obtain ⟨d, s2, w2, rfl, x2, R2, rp, c2⟩ := esc_ok (d := .non) R1 (show OpOk K w σ (.nm j) v from o) he
      rw [he] at e
      exact ⟨w2, x2, R2.asgS e rp⟩
theorem asgs_len : ∀ {is : List Nat} {ds : List D} {s s1 : Sx}, asgs is ds s = some s1 → ds.length = is.length
  | [], [], _, _, _ => rfl
  | [], _ :: _, _, _, e => by cases e
  | _ :: _, [], _, _, e => by cases e
  | i :: is, d :: ds, s, s1, e => by
    unfold asgs at e
    split at e
    · rw [List.length_cons, List.length_cons, asgs_len e]
    · cases e
theorem nxO_some {o : Option Sx} {f : Fl} (e : nxO o = some f) : ∃ s1, o = some s1 ∧ f = .nx s1 := by
  unfold nxO at e
  split at e
  · cases e; exact ⟨_, rfl, rfl⟩
  · cases e
end
section
variable {X : Cx} {cls : Str → Value} {W : WX} {F : Cf} {pos : Pos}
theorem q_nil : PSs X [] (tSts X.K cls W F .nil) := PSsm pss_nil fun D σ H ⟨B, L, w, s, f, hR, e, k⟩ => by
  rw [evSs] at e
  cases e
  exact k w σ H Ext.refl hR
theorem flOk_nx {K : PySem.W.Frag} {B : Hp} {L : Nat → Option Addr} {w : Wr} {D : Ends} {f : Fl} {N : L2.St → Hp → Prop} (h : FlOk K cls W B L w D f) (hn : ∀ s', f ≠ .nx s') : FlOk K cls W B L w { D with nx := N } f := by
  cases f with
  | nx s' => exact absurd rfl (hn s')
  | _ => exact h
theorem q_cons {st : Stmt} {rest : List Stmt} {c : St} {cs : Sts} (h1 : PS X st (tSt X.K cls W F c)) (h2 : PSs X rest (tSts X.K cls W F cs)) : PSs X (st :: rest) (tSts X.K cls W F (.cons c cs)) :=
  PSsm (pss_cons h1 h2) fun D σ H ⟨B, L, w, s, f, hR, e, k⟩ => by
    rw [evSs] at e
    cases hs : evS F c s with
    | none => rw [hs] at e; cases e
    | some fa =>
      rw [hs] at e
      refine ⟨B, L, w, s, fa, hR, hs, ?_⟩
      cases fa with
      | nx s1 => exact fun w' σ' H' ex R' => ⟨B, L, w', s1, f, R', e, k.mono ex⟩
      | brk s1 => cases e; exact k
      | cnt s1 => cases e; exact k
      | ret r s1 => cases e; exact k
      | exc n s1 => cases e; exact k
variable {e : Expr} {ce : Ex} {i : Nat} {x : Str} {p1 : Pos}
theorem q_set (hN : X.N.Nodup) (hi : X.N[i]? = some x) (hx : Loc X.env.scope x) (hf : X.fn x = true ∨ X.env.scope.names.lookup x = some .local) (he : PE X e (tE X.K cls W F ce)) (hs : swapsWith e (some (.Name x p1)) pos.line X.env = pure false) :
    PS X (.Assign [.Name x p1] e pos) (tSt X.K cls W F (.set i ce)) :=
  PSm (ps_set hN hi hx he hs hf) fun D σ H ⟨B, L, w, s, f, hR, e, k⟩ => by
    rw [evS] at e
    refine out_bd hR e k fun r s1 w1 v H1 _ x1 R1 o1 e1 k1 => ?_
    obtain ⟨s2, e2, rfl⟩ := nxO_some e1
    obtain ⟨w2, x2, R2⟩ := asgR_ok R1 o1 e2
    exact k1 w2 _ H1 x2 R2
theorem q_setLc {elt tg iter : Expr} {ifs : List Expr} {scope : Scope} {own : List (Str × Nat)} {lpos : Pos} {src : Src} {t : Tg} {celt : Ex} {ct : Exo} (hc : X.calm = true) (hN : X.N.Nodup) (hy : X.N[i]? = some x) (hyl : X.env.scope.names.lookup x = some .local)
    (hsw : swapsWith (.ListComp elt [⟨tg, iter, ifs, 0⟩] scope lpos) (some (.Name x p1)) pos.line X.env = pure true) (hi : PI X tg iter (tSrc X.K cls W F src)) (ok : BlkOk X.N X.env.scope scope own) (hts : ∀ i, i ∈ t.slots → i ∈ own.map (·.2))
    (hg : ∀ (s : Shared) (H : Hp) (C : Addr) (cl : List (Str × Addr)) (fp : List Addr), PG (X.blk s H scope (compEnvC scope cl C X.env) fp) tg (gOf X.K t))
    (ht : ∀ (s : Shared) (H : Hp) (C : Addr) (cl : List (Str × Addr)) (fp : List Addr), PTs (X.blk s H scope (compEnvC scope cl C X.env) fp) ifs (tCs X.K cls W0 F ct))
    (he : ∀ (s : Shared) (H : Hp) (C : Addr) (cl : List (Str × Addr)) (fp : List Addr), PE (X.blk s H scope (compEnvC scope cl C X.env) fp) elt (tE X.K cls W0 F celt)) (hs : ∀ x, foldedSetIterable iter X.env x = pure x) :
    PS X (.Assign [.Name x p1] (.ListComp elt [⟨tg, iter, ifs, 0⟩] scope lpos) pos) (tSt X.K cls W F (.set i (.lc (own.map (·.2)) celt t src ct))) :=
  PSm (ps_setLc hc hN hy hyl hsw hi ok hg ht he hs) fun D σ H ⟨B, L, w, s, f, hR, e, k⟩ => by
    rw [evS] at e
    refine r_lc_rd hts (out_bd hR e k fun r s1 w1 v H1 _ x1 R1 o1 e1 k1 => ?_)
    obtain ⟨s2, e2, rfl⟩ := nxO_some e1
    obtain ⟨w2, x2, R2⟩ := asgR_ok R1 o1 e2
    exact k1 w2 _ H1 x2 R2
theorem r_lc {elt tg iter : Expr} {ifs : List Expr} {scope : Scope} {own : List (Str × Nat)} {src : Src} {t : Tg} {celt : Ex} {ct : Exo} (hc : X.calm = true) (hN : X.N.Nodup) (hi : PI X tg iter (tSrc X.K cls W F src)) (ok : BlkOk X.N X.env.scope scope own) (hts : ∀ i, i ∈ t.slots → i ∈ own.map (·.2))
    (hg : ∀ (s : Shared) (H : Hp) (C : Addr) (cl : List (Str × Addr)) (fp : List Addr), PG (X.blk s H scope (compEnvC scope cl C X.env) fp) tg (gOf X.K t))
    (ht : ∀ (s : Shared) (H : Hp) (C : Addr) (cl : List (Str × Addr)) (fp : List Addr), PTs (X.blk s H scope (compEnvC scope cl C X.env) fp) ifs (tCs X.K cls W0 F ct))
    (he : ∀ (s : Shared) (H : Hp) (C : Addr) (cl : List (Str × Addr)) (fp : List Addr), PE (X.blk s H scope (compEnvC scope cl C X.env) fp) elt (tE X.K cls W0 F celt)) (hs : ∀ x, foldedSetIterable iter X.env x = pure x) :
    PE X (.ListComp elt [⟨tg, iter, ifs, 0⟩] scope pos) (tE X.K cls W F (.lc (own.map (·.2)) celt t src ct)) :=
  PEm (pe_lc hc hN hi ok hg ht he hs) fun σ H Q h => r_lc_rd hts h
theorem r_lcx {elt tg iter : Expr} {scope : Scope} {own : List (Str × Nat)} {src : Src} {t : Tg} {celt : Ex} (hst : X.stack = X.env :: X.outer) (hfr : X.env.frame = some X.env.locals) (tk : Takes X W) (hc : X.calm = true) (hN : X.N.Nodup) (hi : PI X tg iter (tSrc X.K cls W F src)) (ok : BlkOk X.N X.env.scope scope own) (hts : ∀ i, i ∈ t.slots → i ∈ own.map (·.2))
    (hg : ∀ (s : Shared) (H : Hp) (C : Addr) (cl : List (Str × Addr)) (fp : List Addr), PG (X.blk s H scope (compEnvC scope cl C X.env) fp) tg (gOf X.K t))
    (he : ∀ (σ : L2.St) (s : Shared) (H : Hp) (C : Addr) (cl : List (Str × Addr)) (fp : List Addr) (xe : Value → Shared → Prop), Takes ((X.blk s H scope (compEnvC scope cl C X.env) fp).wish xe) (fun c d _ H => W c d σ H) → PE ((X.blk s H scope (compEnvC scope cl C X.env) fp).wish xe) elt (tE X.K cls (fun c d _ H => W c d σ H) F celt)) (hs : ∀ x, foldedSetIterable iter X.env x = pure x) :
    PE X (.ListComp elt [⟨tg, iter, [], 0⟩] scope pos) (tE X.K cls W F (.lcx (own.map (·.2)) celt t src)) :=
  PEm (pe_lcx (te := fun σ => tE X.K cls (fun c d _ H => W c d σ H) F celt) hst hfr tk hc hN hi ok hg (fun _ _ _ _ _ => pts_nil) he hs) fun σ H Q h => r_lcx_rd hts h
theorem q_ex (he : PE X e (tE X.K cls W F ce)) (hs : swapsWith e none pos.line X.env = pure false) : PS X (.Expr e pos) (tSt X.K cls W F (.ex ce)) :=
  PSm (ps_expr he hs) fun D σ H ⟨B, L, w, s, f, hR, e, k⟩ => by
    rw [evS] at e
    refine out_bd hR e k fun r s1 w1 v H1 _ x1 R1 o1 e1 k1 => ?_
    cases e1
    exact k1 w1 σ H1 Ext.refl R1
theorem q_ret (he : PE X e (tE X.K cls W F ce)) : PS X (.Return (some e) pos) (tSt X.K cls W F (.ret ce)) :=
  PSm (ps_ret he) fun D σ H ⟨B, L, w, s, f, hR, e, k⟩ => by
    rw [evS] at e
    refine out_bd hR e k fun r s1 w1 v H1 _ x1 R1 o1 e1 k1 => ?_
    cases e1
    exact k1 w1 σ v H1 Ext.refl R1 o1
theorem q_retN : PS X (.Return none pos) (tSt X.K cls W F .retN) :=
  PSm ps_retN fun D σ H ⟨B, L, w, s, f, hR, e, k⟩ => by
    rw [evS] at e
    cases e
    exact k w σ .non H Ext.refl hR (res_sh rep_non)
theorem q_pass : PS X (.Pass pos) (tSt X.K cls W F .pas) :=
  PSm ps_pass fun D σ H ⟨B, L, w, s, f, hR, e, k⟩ => by
    rw [evS] at e
    cases e
    exact k w σ H Ext.refl hR
theorem q_brk : PS X (.Break pos) (tSt X.K cls W F .brk) :=
  PSm ps_break fun D σ H ⟨B, L, w, s, f, hR, e, k⟩ => by
    rw [evS] at e
    cases e
    exact k w σ H Ext.refl hR
theorem q_cnt : PS X (.Continue pos) (tSt X.K cls W F .cnt) :=
  PSm ps_continue fun D σ H ⟨B, L, w, s, f, hR, e, k⟩ => by
    rw [evS] at e
    cases e
    exact k w σ H Ext.refl hR
theorem q_if {c : Expr} {cc : Ex} {a b : List Stmt} {ca cb : Sts} (hc : PT X c (tTr X.K cls W F cc)) (ha : PSs X a (tSts X.K cls W F ca)) (hb : PSs X b (tSts X.K cls W F cb)) : PS X (.If c a b pos) (tSt X.K cls W F (.ifs cc ca cb)) :=
  PSm (ps_if hc ha hb) fun D σ H ⟨B, L, w, s, f, hR, e, k⟩ => by
    rw [evS] at e
    refine out_bd hR e k fun r s1 w1 v H1 _ x1 R1 o1 e1 k1 => ?_
    have o1' : r = v := o1
    subst o1'
    cases r with
    | true =>
      rw [if_pos rfl]
      exact ⟨B, L, w1, s1, f, R1, e1, k1⟩
    | false =>
      rw [if_neg Bool.false_ne_true]
      exact ⟨B, L, w1, s1, f, R1, e1, k1⟩
theorem PG_or {tg : Expr} {t t' : TG} (h : PG X tg t) (h' : PG X tg t') : PG X tg (fun v σ H Q => t v σ H Q ∨ t' v σ H Q) :=
  ⟨fun pins s σ H v u Q I r q => q.elim (h.run pins s σ H v u Q I r) (h'.run pins s σ H v u Q I r)⟩
theorem q_setT {tgs : List Expr} {js : List Nat} {kk : Nat} {tpos : Pos} (hc : X.calm = true) (he : PE X e (tE X.K cls W F ce)) (hg : PGs X tgs (gNames js)) (hn : (assignEach tgs X.env).length = js.length) (hst : (assignEach tgs X.env).findIdx? (·.1) = none)
    (hs : swapsWithSole [.Tuple tgs kk tpos] e pos.line X.env = pure false) (hw : swappedStores [.Tuple tgs kk tpos] e X.env = pure none) : PS X (.Assign [.Tuple tgs kk tpos] e pos) (tSt X.K cls W F (.setT js ce)) :=
  PSm (ps_asg he (PG_or (pg_tup hc hg hn hst) (pg_lst hc hg hn hst)) hs hw) fun D σ H ⟨B, L, w, s, f, hR, e, k⟩ => by
    rw [evS, outS_bd] at e
    refine outE_bd hR e k fun r s1 w1 v H1 x1 R1 o1 e1 k1 => ?_
    rcases outS_some e1 with ⟨d, s2, h2, e2⟩ | ⟨n, s2, h2, rfl⟩
    · obtain ⟨d', l, h3⟩ := op_some h2
      cases h3
      split at e2
      · rename_i ds
        obtain ⟨s3, e3, rfl⟩ := nxO_some e2
        obtain ⟨a, vs, rfl, h4, h5⟩ := (R1.rd l o1).tup R1.gh
        exact .inl ⟨a, vs, rfl, h4, by rw [h5.len]; exact asgs_len e3, asgs_go e3 R1 h5 fun σ' R' _ => k1 w1 σ' H1 Ext.refl R'⟩
      · rename_i ds
        obtain ⟨s3, e3, rfl⟩ := nxO_some e2
        obtain ⟨a, vs, rfl, h4, h5⟩ := (R1.rd l o1).lst R1.gh
        exact .inr ⟨a, vs, rfl, SqL.of h4, by rw [h5.len]; exact asgs_len e3, asgs_go e3 R1 h5 fun σ' R' _ => k1 w1 σ' H1 Ext.refl R'⟩
      · cases e2
    · obtain ⟨d', l, h3⟩ := op_some h2
      cases h3
theorem ixN_rep {n : Nat} {k : Int} {j : Nat} (e : ixN n k = some j) : L2.ixN n k = some j := e
theorem PSet_or {t t' : TSet} (h : PSet X t) (h' : PSet X t') : PSet X (fun o i v H Q => t o i v H Q ∨ t' o i v H Q) := fun pins s σ H o i v ov iv u Q I ro ri rv q => q.elim (h pins s σ H o i v ov iv u Q I ro ri rv) (h' pins s σ H o i v ov iv u Q I ro ri rv)
theorem dV_rep {K : PySem.W.Frag} {w : Wr} {d : D} {v v' : V} (e : dV d = some v') (h : Rep K w d v) : v = v' := by
  cases d <;> first | (cases e; unfold Rep at h; exact h) | cases e
theorem key_rd {K : PySem.W.Frag} {w : Wr} {H : Hp} {d : D} {v : V} {y : Key} (e : keyD d = some y) (h : RdOk K w H d v) : v = kV y := by
  cases d with
  | int i => cases e; rw [h.int]; rfl
  | str i => cases e; rw [h.str]; rfl
  | _ => cases e
/-- a store at a place -/
theorem set_place {K : PySem.W.Frag} {B : Hp} {L : Nat → Option Addr} {w w0 : Wr} {s : Sx} {σ : L2.St} {H : Hp} {x : R} {u q v : V} {kd d : D} {f : Fl} {Q : Hp → Prop} (R : Rel K B L w s σ H) (g : Gr w0 w) (o1 : OpOk K w0 σ x u) (hk : RdOk K w H kd q) (rp : Rep K w d v) (e : setR x kd d s = some f)
    (k : ∀ s' H', f = .nx s' → Rel K B L w s' σ H' → Q H') : rSetL u q v H Q ∨ rSetD u q v H Q := by
  have cel : ∀ {n : Nat}, setC n kd d s = some f → (∃ a, w.ca[n]? = some a ∧ u = .ref a) → rSetL u q v H Q ∨ rSetD u q v H Q := fun {n} e ⟨a, ha, hu⟩ => by
    unfold setC at e
    split at e
    · rename_i xs j hx hj
      split at e
      · rename_i m hm
        cases e
        obtain ⟨b, us, q1, q2, q3⟩ := R.cl n xs hx
        rw [ha] at q1; cases q1
        have hq : q = .int j := by
          cases kd <;> first | (cases hj; exact hk.int) | cases hj
        exact .inl ⟨a, us, j, m, hu, hq, q2, by rw [q3.len]; exact hm, k _ _ rfl (R.mutCel ha (q3.set rp m))⟩
      · cases e
    · cases e
  cases x with
  | fr _ => cases e
  | sh d' =>
    cases d' with
    | cel n =>
      have o2 : Rep K w0 (.cel n) u := o1
      have o3 := o2.mono g
      unfold Rep at o3
      exact cel e o3
    | _ => cases e
  | nm j0 =>
    have hσ : σ[j0]? = some (some u) := o1
    have e' : setL j0 kd d s = some f := e
    unfold setL at e'
    split at e'
    · rename_i xs hj
      split at e'
      · rename_i j hj2
        split at e'
        · rename_i m hm
          cases e'
          obtain ⟨a, q1, q2, q3, q4, us, q5, q6⟩ := R.ow _ _ hj
          rw [hσ] at q1
          cases q1
          have hq : q = .int j := by
            cases kd <;> first | (cases hj2; exact hk.int) | cases hj2
          exact .inl ⟨a, us, j, m, rfl, hq, q5, by rw [q6.len]; exact hm, k _ _ rfl (R.mutOw hj hσ ⟨_, upd_same, q6.set rp m⟩)⟩
        · cases e'
      · cases e'
    · rename_i kvs hj
      split at e'
      · rename_i y v' hy hv
        split at e'
        · rename_i hz
          cases e'
          obtain ⟨a, q1, q2, q3, q4, q5⟩ := R.ow _ _ hj
          rw [hσ] at q1
          cases q1
          have hv' := dV_rep hv rp
          subst hv'
          have q5' : H a = some (.dK kvs) := q5
          exact .inr ⟨a, _, rfl, .inl ⟨kvs, y, q5', key_rd hy hk, by rw [sizeLine_eq]; exact hz, rfl⟩, k _ _ rfl (R.mutOw hj hσ (show Own K w _ a (.dct _) from upd_same))⟩
        · cases e'
      · cases e'
    · rename_i n hj
      exact cel e' (R.slot hj hσ).cel
    · cases e'
/-- o[lo:hi] = a list -/
def gSlS (to : TE) (tl th : TO) : TG := fun v σ H Q => to σ H fun o H1 => tl σ H1 fun l H2 => th σ H2 fun u H3 => ∃ a b xs ys lo hi, o = .ref a ∧ v = .ref b ∧ a ≠ b ∧ l = some lo ∧ u = some hi ∧ H3 a = some (.lst xs) ∧ H3 b = some (.lst ys) ∧ (0 ≤ lo ∧ lo ≤ hi ∧ hi ≤ (xs.length : Int)) ∧ xs.length + ys.length ≤ sizeLine ∧ Q σ (upd H3 a (.lst (xs.take lo.toNat ++ ys ++ xs.drop hi.toNat)))
theorem pg_slS {o : Expr} {lo hi : Option Expr} {to : TE} {tl th : TO} {p1 p2 : Pos} (ho : PE X o to) (hl : PO X lo tl) (hu : PO X hi th) : PG X (.Subscript o (.Slice lo hi none p2) p1) (gSlS to tl th) := by
  refine ⟨fun pins s σ H v u Q I r h => ?_⟩
  rw [assign_Subscript]
  refine wpAny_bind (wpAny_holding (thn (ho.run pins s σ H _ I h) fun ov s1 ⟨x, H1, I1, r1, q1⟩ => ?_))
  refine wpAny_bind (wpAny_holding (wpAny_Slice (thn (hl.run pins s1 σ H1 _ I1 q1) fun vl s2 ⟨l, H2, I2, pl, q2⟩ => thn (hu.run pins s2 σ H2 _ I2 q2) fun vu s3 ⟨w, H3, I3, pu, q3⟩ => ?_)))
  rw [evalPart_none]
  refine wpAny_pure ?_
  obtain ⟨a, b, xs, ys, i, j, rfl, rfl, hne, rfl, rfl, ha, hb, ⟨h0, h1, h2⟩, hz, q⟩ := q3
  have I4 : Inv X pins σ H3 { s3 with heap := s3.heap.push { cls := .type "slice", data := .fields #[vl, vu, .none] } } := I3.kept (t' := s3.toks) fun b ob q => Heap.get?_push_of_some _ q
  cases r1
  cases r
  cases pl
  cases pu
  refine wpAny_bind (wpAny_standAt (wpAny_bind (wpAny_holding (set_slice I4 ha hb hne (Heap.IsSliceOf.new ..) ⟨_, rfl⟩ ⟨_, rfl⟩ h0 h1 h2 hz fun s' I' => ?_))))
  exact wpAny_release ⟨σ, _, I', q⟩
theorem setSl_some {x : R} {l h : Option Int} {d : D} {s : Sx} {f : Fl} (e : setSl x l h d s = some f) : ∃ i a b ys xs, x = .nm i ∧ l = some a ∧ h = some b ∧ d = .lst ys ∧ s.e[i]? = some (some ⟨.ow, .lst xs⟩) ∧ ((0 ≤ a ∧ a ≤ b ∧ b ≤ (xs.length : Int)) ∧ xs.length + ys.length ≤ 16777216) ∧ f = .nx { s with e := s.e.set i (some ⟨.ow, .lst (xs.take a.toNat ++ ys ++ xs.drop b.toNat)⟩) } := by
  cases x with
  | nm i => cases l with
    | some a => cases h with
      | some b => cases d with
        | lst ys =>
          unfold setSl at e
          dsimp only at e
          split at e
          · rename_i xs hj
            split at e
            · rename_i hc
              cases e
              exact ⟨i, a, b, ys, xs, rfl, rfl, rfl, rfl, hj, hc, rfl⟩
            · cases e
          · cases e
        | _ => cases e
      | none => cases e
    | none => cases e
  | _ => cases e
theorem q_setS {o : Expr} {lo hi : Option Expr} {co : Ex} {cl ch : Exo} {p1 p2 : Pos} (he : PE X e (tE X.K cls W F ce)) (ho : PE X o (tE X.K cls W F co)) (hl : PO X lo (tOp' X.K cls W F cl)) (hh : PO X hi (tOp' X.K cls W F ch))
    (hs : swapsWithSole [.Subscript o (.Slice lo hi none p2) p1] e pos.line X.env = pure false) (hw : swappedStores [.Subscript o (.Slice lo hi none p2) p1] e X.env = pure none) :
    PS X (.Assign [.Subscript o (.Slice lo hi none p2) p1] e pos) (tSt X.K cls W F (.setS co cl ch ce)) :=
  PSm (ps_asg he (pg_slS ho hl hh) hs hw) fun D σ H ⟨B, L, w, s, f, hR, e, k⟩ => by
    rw [evS, outS_bd] at e
    refine outE_bd hR e k fun r s1 w1 v H1 x1 R1 o1 e1 k1 => ?_
    rcases outS_some e1 with ⟨d, s2, h2, e2⟩ | ⟨n, s2, h2, rfl⟩
    · obtain ⟨d', s2', w2, h3, x2, R2, rp, c2⟩ := esc_ok (d := .non) R1 o1 h2
      cases h3
      rw [outS_bd] at e2
      refine outE_bd R2 e2 (k1.mono x2) fun x s3 w3 u H3 x3 R3 o3 e3 k3 => ?_
      rw [outS_bd] at e3
      refine out_bd R3 e3 k3 fun l s4 w4 l' H4 _ x4 R4 o4 e4 k4 => ?_
      rw [outS_bd] at e4
      refine out_bd R4 e4 k4 fun h s5 w5 h' H5 _ x5 R5 o5 e5 k5 => ?_
      have z4 : l = l' := o4
      have z5 : h = h' := o5
      subst z4 z5
      have o6 := o3.mono (x4.trans x5).toGr
      have rp6 := rp.mono (x3.trans (x4.trans x5)).toGr
      obtain ⟨i, a, b, ys, xs, rfl, rfl, rfl, rfl, hj, hc, rfl⟩ := setSl_some e5
      have hσ : σ[i]? = some (some u) := o6
      obtain ⟨p, q1, q2, q3, q4, us, q5, q6⟩ := R5.ow _ _ hj
      rw [hσ] at q1
      cases q1
      have rp7 := rp6
      unfold Rep at rp7
      obtain ⟨b', vs, rfl, g1, g2⟩ := rp7
      have hB : H5 b' = some (.lst vs) := R5.gh _ _ g1
      have hne : p ≠ b' := fun e => by
        rw [e, g1] at q2
        cases q2
      refine ⟨p, b', us, vs, a, b, rfl, rfl, hne, rfl, rfl, q5, hB, ⟨hc.1.1, hc.1.2.1, by rw [q6.len]; exact hc.1.2.2⟩, by rw [sizeLine_eq, q6.len, g2.len]; exact hc.2, ?_⟩
      exact k5 w5 _ _ Ext.refl (R5.mutOw hj hσ ⟨_, upd_same, ((q6.take _).app g2).app (q6.drop _)⟩)
    · obtain ⟨d', s2', w2, h3, _⟩ := esc_ok (d := .non) R1 o1 h2
      cases h3
theorem q_setI {o ie : Expr} {co ci : Ex} {p2 : Pos} (hu : X.A.units + 1 < cLine) (he : PE X e (tE X.K cls W F ce)) (ho : PE X o (tE X.K cls W F co)) (hi : PE X ie (tE X.K cls W F ci))
    (ha : ∀ v, assign (.Subscript o ie p2) X.env v = (do
      let ov ← holding [v] (eval o X.env)
      let iv ← holding [v, ov] (eval ie X.env)
      standAt p2
      holding [v, ov, iv] (setItem ov iv v)
      release [v, ov, iv] [])) (hs : swapsWithSole [.Subscript o ie p2] e pos.line X.env = pure false) (hw : swappedStores [.Subscript o ie p2] e X.env = pure none) :
    PS X (.Assign [.Subscript o ie p2] e pos) (tSt X.K cls W F (.setI co ci ce)) :=
  PSm (ps_asg he (pg_sub ho hi (PSet_or set_list (set_dict hu)) ha) hs hw) fun D σ H ⟨B, L, w, s, f, hR, e, k⟩ => by
    rw [evS, outS_bd] at e
    refine outE_bd hR e k fun r s1 w1 v H1 x1 R1 o1 e1 k1 => ?_
    rcases outS_some e1 with ⟨d, s2, h2, e2⟩ | ⟨n, s2, h2, rfl⟩
    · obtain ⟨d', s2', w2, h3, x2, R2, rp, c2⟩ := esc_ok (d := .non) R1 o1 h2
      cases h3
      rw [outS_bd] at e2
      refine outE_bd R2 e2 (k1.mono x2) fun x s3 w3 u H3 x3 R3 o3 e3 k3 => ?_
      rw [outS_bd] at e3
      refine outE_bd R3 e3 k3 fun z s4 w4 q H4 x4 R4 o4 e4 k4 => ?_
      rcases outS_some e4 with ⟨p, s5, h5, e5⟩ | ⟨n, s5, h5, rfl⟩
      · obtain ⟨kd, l, h6⟩ := lkp_some h5
        cases h6
        exact set_place R4 x4.toGr o3 (R4.rd l o4) (rp.mono (x3.trans x4).toGr) e5 fun s' H' ef R' => by
          subst ef
          exact k4 w4 σ H' Ext.refl R'
      · obtain ⟨kd, l, h6⟩ := lkp_some h5
        cases h6
    · obtain ⟨d', s2', w2, h3, _⟩ := esc_ok (d := .non) R1 o1 h2
      cases h3
/-- d[k] += j, d[k] -= j -/
theorem q_augI {o : Bop} {op : Operator} {ie je : Expr} {ci : Ex} {j : Int} {p2 p3 : Pos} (hop : (o = .add ∧ op = .Add) ∨ (o = .sub ∧ op = .Sub)) (hu : X.A.units + 1 < cLine) (hN : X.N[i]? = some x) (hv : Vis X.env.scope x) (hd : (x == ("__debug__" : Str)) = false) (hcd : (x == ("__classdict__" : Str)) = false)
    (hi : PE X ie (tE X.K cls W F ci)) (hj : PE X je (tC (.int j)))
    (ha : ∀ ov iv new, augStore ie ov iv new = (do holding [new, ov, iv] (setItem ov iv new); release [new, ov, iv] []; pure .next)) :
    PS X (.AugAssign (.Subscript (.Name x p3) ie p2) op je pos) (tSt X.K cls W F (.augI i ci o j)) := by
  have core : ∀ (g : Int → Int → Int) (D : Ends) (σ : L2.St) (H : Hp), (∀ x y, augD o x y = some (g x y)) → tSt X.K cls W F (.augI i ci o j) D σ H → sDAug (tVar i) (tE X.K cls W F ci) (tC (.int j)) (rI0 fun x y => .int (g x y)) D σ H := fun g D σ H hg ⟨B, L, w, s, f, hR, e, k⟩ => by
    rw [evS] at e
    split at e
    case h_2 => cases e
    rename_i kvs0 hi0
    obtain ⟨a0, p1, _⟩ := hR.ow i _ hi0
    refine ⟨_, p1, ?_⟩
    rw [outS_bd] at e
    refine outE_bd hR e k fun r s1 w1 v H1 x1 R1 o1 e1 k1 => ?_
    rcases outS_some e1 with ⟨kd, s2, h2, e2⟩ | ⟨n, s2, h2, rfl⟩
    · obtain ⟨kd', l, h3⟩ := op_some (x := look s1 r) h2
      cases h3
      unfold augL at e2
      split at e2
      case h_2 => cases e2
      rename_i kvs hi
      split at e2
      case h_2 => cases e2
      rename_i y hy
      split at e2
      case h_2 => cases e2
      rename_i z hz
      rw [hg] at e2
      dsimp only at e2
      split at e2
      case isFalse => cases e2
      rename_i hl
      cases e2
      obtain ⟨a1, q1, q2, q3, q4, q5⟩ := R1.ow i _ hi
      rw [p1] at q1
      cases q1
      have q5' : H1 a0 = some (.dK kvs) := q5
      have hk := key_rd hy (R1.rd l o1)
      rw [hk]
      refine ⟨a0, _, rfl, by rw [← hz]; exact DGet.k q5', z, j, rfl, rfl, _, .inl ⟨kvs, y, q5', rfl, by rw [sizeLine_eq]; exact hl, rfl⟩, ?_⟩
      exact k1 w1 _ _ Ext.refl (R1.mutOw hi p1 (show Own X.K w1 _ a0 (.dct _) from upd_same))
    · obtain ⟨kd', l, h3⟩ := op_some (x := look s1 r) h2
      cases h3
  rcases hop with ⟨rfl, rfl⟩ | ⟨rfl, rfl⟩
  · exact PSm (ps_daug hu (pe_var hN hv hd hcd) hi hj iop_add ha) fun D σ H h => core (fun i j => i + j) D σ H (fun _ _ => rfl) h
  · exact PSm (ps_daug hu (pe_var hN hv hd hcd) hi hj iop_sub ha) fun D σ H h => core (fun i j => i - j) D σ H (fun _ _ => rfl) h
theorem q_aug {o : Bop} {op : Operator} (hop : (o = .add ∧ op = .Add) ∨ (o = .sub ∧ op = .Sub)) (hN : X.N.Nodup) (hi : X.N[i]? = some x) (hx : Loc X.env.scope x) (hf : X.fn x = true ∨ X.env.scope.names.lookup x = some .local) (he : PE X e (tE X.K cls W F ce)) :
    PS X (.AugAssign (.Name x p1) op e pos) (tSt X.K cls W F (.aug i o ce)) := by
  have core : ∀ (g : Int → Int → Int) (D : Ends) (σ : L2.St) (H : Hp), (∀ x y, augD o x y = some (g x y)) → tSt X.K cls W F (.aug i o ce) D σ H → tAug i (tE X.K cls W F ce) (ipI g) D σ H := fun g D σ H hg ⟨B, L, w, s, f, hR, e, k⟩ => by
    rw [evS] at e
    split at e
    · rename_i z hz
      obtain ⟨v, q1, q2⟩ := hR.sh i _ hz
      unfold Rep at q2
      subst q2
      refine ⟨_, q1, ?_⟩
      rw [outS_bd] at e
      refine outE_bd hR e k fun r s1 w1 v H1 x1 R1 o1 e1 k1 => ?_
      rcases outS_some e1 with ⟨y, s2, h2, e2⟩ | ⟨n, s2, h2, rfl⟩
      · unfold intO at h2
        obtain ⟨d, l, h3⟩ := lkp_some h2
        obtain ⟨y', h4, h5⟩ := op_some h3
        cases h5
        split at h4
        · cases h4
          simp only [hg] at e2
          obtain ⟨s3, e3, rfl⟩ := nxO_some e2
          exact ⟨z, y, rfl, (R1.rd l o1).int, k1 w1 _ H1 Ext.refl (R1.asgS e3 rep_int)⟩
        · cases h4
      · unfold intO at h2
        obtain ⟨d, l, h3⟩ := lkp_some h2
        obtain ⟨y', h4, h5⟩ := op_some h3
        cases h5
    · cases e
  rcases hop with ⟨rfl, rfl⟩ | ⟨rfl, rfl⟩
  · exact PSm (ps_aug hN hi hx he ip_add hf) fun D σ H h => core (fun i j => i + j) D σ H (fun _ _ => rfl) h
  · exact PSm (ps_aug hN hi hx he ip_sub hf) fun D σ H h => core (fun i j => i - j) D σ H (fun _ _ => rfl) h
theorem q_while {c : Expr} {cc : Ex} {body : List Stmt} {cb : Sts} (hp : PassesOwn (model X.prog X.w) X.A X.env X.xe) (hc : PT X c (tTr X.K cls W F cc)) (hb : PSs X body (tSts X.K cls W F cb)) : PS X (.While c body [] pos) (tSt X.K cls W F (.whl cc cb)) :=
  PSm (ps_while hp hc hb) fun D σ H ⟨B, L, w, s, f, hR, e, k⟩ => by
    rw [evS] at e
    refine ⟨fun m σ H => ∃ w s, Rel X.K B L w s σ H ∧ whlL (bd (evE F cc) truM) (evSs F cb) m s = some f ∧ FlOk X.K cls W B L w D f, ⟨_, w, s, hR, e, k⟩, ?_⟩
    rintro m σ H ⟨w, s, hR, e, k⟩
    cases m with
    | zero => cases e
    | succ m =>
      unfold whlL at e
      cases ht : bd (evE F cc) truM s with
      | none => rw [ht] at e; cases e
      | some o =>
        rw [ht] at e
        refine ⟨B, L, w, s, o, hR, ht, fun b s1 eo w1 b' H1 x1 R1 hb' => ?_, fun n s1 eo w1 H1 x1 R1 => ?_⟩
        · subst eo
          have hb2 : b = b' := hb'
          subst hb2
          cases b with
          | false =>
            rw [if_neg Bool.false_ne_true]
            cases e
            exact k w1 σ H1 x1 R1
          | true =>
            rw [if_pos rfl]
            refine ⟨_, fun σ' H' h => ⟨m, Nat.lt_succ_self m, h⟩, ?_⟩
            have e' : (match evSs F cb s1 with
              | some (.nx s2) => whlL (bd (evE F cc) truM) (evSs F cb) m s2
              | some (.cnt s2) => whlL (bd (evE F cc) truM) (evSs F cb) m s2
              | some (.brk s2) => some (.nx s2)
              | some (.ret r s2) => some (.ret r s2)
              | some (.exc n s2) => some (.exc n s2)
              | none => none) = some f := e
            cases hs : evSs F cb s1 with
            | none => rw [hs] at e'; cases e'
            | some fb =>
              rw [hs] at e'
              refine ⟨B, L, w1, s1, fb, R1, hs, ?_⟩
              cases fb with
              | nx s2 => exact fun w2 σ2 H2 x2 R2 => ⟨w2, s2, R2, e', k.mono (x1.trans x2)⟩
              | cnt s2 => exact fun w2 σ2 H2 x2 R2 => ⟨w2, s2, R2, e', k.mono (x1.trans x2)⟩
              | brk s2 => cases e'; exact fun w2 σ2 H2 x2 R2 => k w2 σ2 H2 (x1.trans x2) R2
              | ret r s2 => cases e'; exact fun w2 σ2 v2 H2 x2 R2 o2 => k w2 σ2 v2 H2 (x1.trans x2) R2 o2
              | exc n s2 => cases e'; exact fun w2 σ2 H2 x2 R2 => k w2 σ2 H2 (x1.trans x2) R2
        · subst eo
          cases e
          exact k w1 σ H1 x1 R1
/-- a flow of a locked stretch -/
theorem flOk_back {K : PySem.W.Frag} {B B' : Hp} {L L' : Nat → Option Addr} {w w1 : Wr} {s : Sx} {σ : L2.St} {H : Hp} {ls : List Nat} {DE : Ends} {f : Fl} (lk : Lkd K B L w s σ H (lock ls) (unlock ls) B' L') (x1 : Ext B' w w1) (k : FlOk K cls W B L w DE (f.map (unlock ls))) :
    FlOk K cls W B' L' w1 DE f := by
  have back : ∀ {w2 s2 σ2 H2}, Ext B' w1 w2 → Rel K B' L' w2 s2 σ2 H2 → Ext B w w2 ∧ Rel K B L w2 (unlock ls s2) σ2 H2 := fun {w2 s2 σ2 H2} x2 R2 => lk.back w2 s2 σ2 H2 (x1.trans x2) R2
  cases f with
  | nx s2 => exact fun w2 σ2 H2 x2 R2 => k w2 σ2 H2 (back x2 R2).1 (back x2 R2).2
  | brk s2 => exact fun w2 σ2 H2 x2 R2 => k w2 σ2 H2 (back x2 R2).1 (back x2 R2).2
  | cnt s2 => exact fun w2 σ2 H2 x2 R2 => k w2 σ2 H2 (back x2 R2).1 (back x2 R2).2
  | exc n s2 => exact fun w2 σ2 H2 x2 R2 => k w2 σ2 H2 (back x2 R2).1 (back x2 R2).2
  | ret r s2 =>
    intro w2 σ2 v2 H2 x2 R2 o2
    obtain ⟨ex, R⟩ := back x2 R2
    refine k w2 σ2 v2 H2 ex R ?_
    cases r with
    | sh d => exact o2
    | nm i => exact o2
    | fr d =>
      obtain ⟨a, rfl, q1, q2, q3, q4, q5⟩ := o2
      refine ⟨a, rfl, q1, ?_, q3, q4, fun j d' hj ho => ?_⟩
      · cases hb : B a with
        | none => rfl
        | some u =>
          have := lk.sub a (by rw [hb]; exact fun z => nomatch z)
          rw [q2, hb] at this; cases this
      · obtain ⟨k', hj'⟩ := unlock_get hj
        cases k' with
        | ow => exact q5 j d' hj' ho
        | lk =>
          obtain ⟨b, p1, _, p3, _⟩ := R2.lk j d' hj'
          rw [ho] at p1
          cases p1
          exact p3 q2
        | sh =>
          obtain ⟨b, p1, p2, p3, p4, p5⟩ := R.ow j d' hj
          rw [ho] at p1
          cases p1
          obtain ⟨v, g1, g2⟩ := R2.sh j d' hj'
          rw [ho] at g1
          cases g1
          cases d' with
          | lst ds =>
            unfold Rep at g2
            obtain ⟨c, us, e, g3, _⟩ := g2
            cases e
            rw [q1] at g3; cases g3
          | dct _ => unfold Rep at g2; exact g2
          | _ => exact p5
theorem gdB_some {ls : List Nat} {ds : List D} {b : Sx → Option Fl} {s : Sx} {f : Fl} (e : gdB ls ds b s = some f) : b s = some f ∧ (∀ s', f = .nx s' → GdOk ls ds s') ∧ ∀ s', f = .cnt s' → GdOk ls ds s' := by
  unfold gdB at e
  split at e
  · rename_i hb
    split at e
    · rename_i hg
      cases e
      refine ⟨hb, fun s' z => ?_, fun s' z => ?_⟩
      · cases z
        exact hg
      · cases z
    · cases e
  · rename_i hb
    split at e
    · rename_i hg
      cases e
      refine ⟨hb, fun s' z => ?_, fun s' z => ?_⟩
      · cases z
      · cases z
        exact hg
    · cases e
  · rename_i h1 h2
    refine ⟨e, fun s' z => ?_, fun s' z => ?_⟩
    · rw [z] at e
      exact absurd e (h1 _)
    · rw [z] at e
      exact absurd e (h2 _)
theorem q_for {tg iter : Expr} {body : List Stmt} {src : Src} {t : Tg} {cb : Sts} (hp : PassesOwn (model X.prog X.w) X.A X.env X.xe) (hc : X.calm = true) (hi : PI X tg iter (tSrc X.K cls W F src)) (hg : PG X tg (gOf X.K t)) (hb : PSs X body (tSts X.K cls W F cb))
    (hs : ∀ x, foldedSetIterable iter X.env x = pure x) : PS X (.For tg iter body [] pos) (tSt X.K cls W F (.for t src cb)) :=
  PSm (ps_for hp hc hi hg hb hs) fun D σ H ⟨B, L, w, s, f, hR, e, k⟩ => by
    rw [evS] at e
    rcases outS_some e with ⟨p, s1, h1, e1⟩ | ⟨n, s1, h1, rfl⟩
    · refine ⟨B, L, w, s, _, hR, h1, fun p' s' eo w1 H1 J x1 R1 sr => ?_, fun n s' eo => (nomatch eo)⟩
      cases eo
      obtain ⟨B', L', lkd, wk, gd0⟩ := sr
      split at e1
      · rename_i f0 hf
        cases e1
        refine ⟨fun i m σ H => m = p.1.length - i ∧ i ≤ p.1.length ∧ ∃ w2 s2, Ext B' w1 w2 ∧ Rel X.K B' L' w2 s2 σ H ∧ GdOk p.2 p.1 s2 ∧ forL t (gdB p.2 p.1 (evSs F cb)) (p.1.drop i) s2 = some f0, ⟨p.1.length, by simp, Nat.zero_le _, w1, _, Ext.refl, lkd.rel, gd_c lock_c gd0, hf⟩, ?_⟩
        rintro i m σ2 H2 ⟨rfl, hi, w2, s2, x2, R2, gd2, hfl⟩
        have kk : FlOk X.K cls W B' L' w2 D f0 := flOk_back lkd x2 (k.mono x1)
        obtain ⟨step, stop⟩ := wk B' L' w2 _ _ H2 (fun _ _ => rfl) x2 R2 gd2 i
        by_cases hlt : i < p.1.length
        · obtain ⟨d, hd⟩ : ∃ d, p.1[i]? = some d := ⟨_, List.getElem?_eq_getElem hlt⟩
          obtain ⟨go, yl⟩ := step d hd
          have edrop : p.1.drop i = d :: p.1.drop (i + 1) := by
            rw [List.drop_eq_getElem_cons hlt]
            rw [List.getElem?_eq_getElem hlt] at hd
            cases hd
            rfl
          rw [edrop] at hfl
          unfold forL at hfl
          refine .inr ⟨go, _, fun σ' H' hN => ⟨p.1.length - (i + 1), by omega, rfl, hlt, hN⟩, fun x H3 hy => ?_⟩
          obtain ⟨w3, x3, R3, rp⟩ := yl x H3 hy
          split at hfl
          · cases hfl
          · rename_i s4 ha
            refine asgT_go ha R3 rp fun σ4 R4 _ => ?_
            cases hs0 : gdB p.2 p.1 (evSs F cb) s4 with
            | none => rw [hs0] at hfl; cases hfl
            | some fb =>
              rw [hs0] at hfl
              obtain ⟨hs, gn, gc⟩ := gdB_some hs0
              refine ⟨B', L', w3, s4, fb, R4, hs, ?_⟩
              cases fb with
              | nx s5 => exact fun w5 σ5 H5 x5 R5 => ⟨w5, s5, x2.trans (x3.trans x5), R5, gn s5 rfl, hfl⟩
              | cnt s5 => exact fun w5 σ5 H5 x5 R5 => ⟨w5, s5, x2.trans (x3.trans x5), R5, gc s5 rfl, hfl⟩
              | brk s5 => cases hfl; exact fun w5 σ5 H5 x5 R5 => kk w5 σ5 H5 (x3.trans x5) R5
              | ret r s5 => cases hfl; exact fun w5 σ5 v5 H5 x5 R5 o5 => kk w5 σ5 v5 H5 (x3.trans x5) R5 o5
              | exc n s5 => cases hfl; exact fun w5 σ5 H5 x5 R5 => kk w5 σ5 H5 (x3.trans x5) R5
        · have ei : i = p.1.length := by omega
          subst ei
          refine .inl ⟨stop (List.getElem?_eq_none (Nat.le_refl _)), ?_⟩
          rw [List.drop_length] at hfl
          unfold forL at hfl
          cases hfl
          exact kk w2 σ2 H2 Ext.refl R2
      · cases e1
    · exact ⟨B, L, w, s, _, hR, h1, fun p' s' eo => (nomatch eo), fun n s' eo w' H' ex R' => by cases eo; exact k w' σ H' ex R'⟩
end
end PV
set_option maxHeartbeats 4000000
/-! try, except: the suite. -/
namespace PV
open PySem PySem.Spec PyProof.Rows L2
/-- the slot x holds the error a -/
def HasE (x : Nat) (a : Addr) (σ : L2.St) : Prop := σ[x]? = some (some (.ref a))
/-- a flag of the suite -/
def tFl (x : Nat) (a : Addr) (b : Bool) : TE := fun σ H Q => HasE x a σ ∧ Q (.bl b) H
def tFls (x : Nat) (a : Addr) (bs : List Bool) : TA := fun σ H Q => HasE x a σ ∧ Q (bs.map V.bl) H
section
variable {X : Cx} {cls : Str → Value} {W : WX} {F : Cf} {pos p p2 p3 : Pos} {x : Nat} {a Da : Addr} {b : Bool}
theorem u_isE {oe : Obj} {pn : List (Addr × Obj)} {en cn : Str} {c : V} {cv : Value} (C : ExcC X.K Da) (hz : Zc (.ref Da) none oe) (hf : ∃ vs, oe.data = .fields vs) (hg : Gl X "isinstance") (hm : X.mg "isinstance" = none) (hN : X.N[x]? = some en) (hv : Vis X.env.scope en) (hd : (en == ("__debug__" : Str)) = false) (hcd : (en == ("__classdict__" : Str)) = false)
    (hc : PE (X.suite a ((a, oe) :: pn)) (.Name cn p3) (tC c)) (hcv : ∀ u, RelV c u → u = cv) (hk : PySem.W.kitOne X.K (.ref Da) cv = some b) :
    PE (X.suite a ((a, oe) :: pn)) (.Call (.Name "isinstance" p) [.Name en p2, .Name cn p3] [] pos) (tFl x a b) :=
  PEm (pe_callB (call_isE C hz hf) hg hm (by decide +kernel) (pa_cons (pe_var (X := X.suite a ((a, oe) :: pn)) hN hv hd hcd) (pa_cons hc pa_nil)) (by decide +kernel) (by decide +kernel)) fun σ H Q ⟨h, q⟩ => ⟨.ref a, h, c, cv, b, rfl, hcv, hk, q⟩
theorem u_not {e : Expr} (h : PE X e (tFl x a b)) : PE X (.UnaryOp .Not e pos) (tFl x a (!b)) := PEm (pe_not h) fun σ H Q ⟨h, q⟩ => ⟨h, b, rfl, q⟩
theorem u_nil : PA X [] (tFls x a []) := PAm pa_nil fun σ H Q ⟨h, q⟩ => q
theorem u_cons {e : Expr} {es : List Expr} {bs : List Bool} (h : PE X e (tFl x a b)) (hr : PA X es (tFls x a bs)) (hs : starEach (e :: es) X.env = (false, eval e X.env) :: starEach es X.env) : PA X (e :: es) (tFls x a (b :: bs)) :=
  PAm (pa_cons h hr hs) fun σ H Q ⟨h, q⟩ => ⟨h, h, q⟩
/-- the reading of the steps of a suite -/
def tU (K : PySem.W.Frag) (x : Nat) (a : Addr) (us : List Us) : TS := fun E σ H => HasE x a σ ∧ ∃ B L w s s', Rel K B L w s σ H ∧ uSs us s = some s' ∧ ∀ w' σ' H', Ext B w w' → Rel K B L w' s' σ' H' → E.nx σ' H'
def tU1 (K : PySem.W.Frag) (x : Nat) (a : Addr) (u : Us) : TS := fun E σ H => HasE x a σ ∧ ∃ B L w s s', Rel K B L w s σ H ∧ uS u s = some s' ∧ ∀ w' σ' H', Ext B w w' → Rel K B L w' s' σ' H' → HasE x a σ' → E.nx σ' H'
theorem u_done {us : List Us} (h : us = []) : PSs X [] (tU X.K x a us) := PSsm pss_nil fun E σ H ⟨_, B, L, w, s, s', R, e, k⟩ => by
  subst h
  cases e
  exact k w σ H Ext.refl R
theorem u_seq {st : Stmt} {ss : List Stmt} {u : Us} {us : List Us} (h : PS X st (tU1 X.K x a u)) (hr : PSs X ss (tU X.K x a us)) : PSs X (st :: ss) (tU X.K x a (u :: us)) :=
  PSsm (pss_cons h hr) fun E σ H ⟨he, B, L, w, s, s', R, e, k⟩ => by
    unfold uSs at e
    cases h1 : uS u s with
    | none => rw [h1] at e; cases e
    | some s1 =>
      rw [h1] at e
      exact ⟨he, B, L, w, s, s1, R, h1, fun w' σ' H' ex R' he' => ⟨he', B, L, w', s1, s', R', e, fun w2 σ2 H2 ex2 R2 => k w2 σ2 H2 (ex.trans ex2) R2⟩⟩
theorem bls_reps {K : PySem.W.Frag} {w : Wr} : ∀ bs : List Bool, Reps K w (bs.map D.bl) (bs.map V.bl)
  | [] => Reps.nil
  | b :: bs => Reps.cons rep_bl (bls_reps bs)
theorem u_setL {i : Nat} {y : Str} {es : List Expr} {bs : List Bool} {p1 lp : Pos} (hN : X.N.Nodup) (hi : X.N[i]? = some y) (hx : Loc X.env.scope y) (hf : X.fn y = true ∨ X.env.scope.names.lookup y = some .local) (hix : i ≠ x) (hl : bs.length ≤ 16777216) (h : PA X es (tFls x a bs)) (hs : swapsWith (.List es lp) (some (.Name y p1)) pos.line X.env = pure false) :
    PS X (.Assign [.Name y p1] (.List es lp) pos) (tU1 X.K x a (.setL i bs)) :=
  PSm (ps_set hN hi hx (pe_lst h) hs hf) fun E σ H ⟨he, B, L, w, s, s', R, e, k⟩ => by
    refine ⟨he, by rw [List.length_map, sizeLine_eq]; exact hl, fun p hp => ?_⟩
    obtain ⟨R1, o1⟩ := R.newOwn (bls_reps bs) hp
    have R2 := R1.asgO e o1
    exact k w _ _ Ext.refl R2 (by unfold HasE; rw [List.getElem?_set_ne hix]; exact he)
theorem uS_addL {i : Nat} {bs : List Bool} {s s' : Sx} (e : uS (.addL i bs) s = some s') : ∃ xs, s.e[i]? = some (some ⟨.ow, .lst xs⟩) ∧ xs.length + bs.length ≤ 16777216 ∧ asgD i .ow (.lst (xs ++ bs.map D.bl)) s = some s' := by
  have e : (match s.e[i]? with
    | some (some ⟨.ow, .lst xs⟩) => if xs.length + bs.length ≤ 16777216 then asgD i .ow (.lst (xs ++ bs.map D.bl)) s else none
    | _ => none) = some s' := e
  split at e
  · rename_i xs h
    split at e
    · rename_i hz
      exact ⟨xs, h, hz, e⟩
    · cases e
  · cases e
theorem uS_app {i : Nat} {b : Bool} {s s' : Sx} (e : uS (.app i b) s = some s') : ∃ xs, s.e[i]? = some (some ⟨.ow, .lst xs⟩) ∧ xs.length < 16777216 ∧ s' = { s with e := s.e.set i (some ⟨.ow, .lst (xs ++ [.bl b])⟩) } := by
  have e : (match s.e[i]? with
    | some (some ⟨.ow, .lst xs⟩) => if xs.length < 16777216 then some { s with e := s.e.set i (some ⟨.ow, .lst (xs ++ [.bl b])⟩) } else none
    | _ => none) = some s' := e
  split at e
  · rename_i xs h
    split at e
    · rename_i hz
      cases e
      exact ⟨xs, h, hz, rfl⟩
    · cases e
  · cases e
theorem u_addL {i : Nat} {y : Str} {es : List Expr} {bs : List Bool} {p1 p4 bp lp : Pos} (hN : X.N.Nodup) (hi : X.N[i]? = some y) (hx : Loc X.env.scope y) (hf : X.fn y = true ∨ X.env.scope.names.lookup y = some .local) (hv : Vis X.env.scope y) (hd : (y == ("__debug__" : Str)) = false) (hcd : (y == ("__classdict__" : Str)) = false) (hix : i ≠ x) (hl : bs.length ≤ 16777216) (h : PA X es (tFls x a bs))
    (hs : swapsWith (.BinOp (.Name y p4) .Add (.List es lp) bp) (some (.Name y p1)) pos.line X.env = pure false) :
    PS X (.Assign [.Name y p1] (.BinOp (.Name y p4) .Add (.List es lp) bp) pos) (tU1 X.K x a (.addL i bs)) :=
  PSm (ps_set hN hi hx (pe_op (bopR_op X .add) (pe_var hi hv hd hcd) (pe_lst h)) hs hf) fun E σ H ⟨he, B, L, w, s, s', R, e, k⟩ => by
    obtain ⟨xs, hi', hz, e⟩ := uS_addL e
    obtain ⟨a0, q1, q2, q3, q4, us, q5, q6⟩ := R.ow i _ hi'
    refine ⟨.ref a0, q1, he, by rw [List.length_map, sizeLine_eq]; exact hl, fun p0 hp0 => ?_⟩
    have ne : a0 ≠ p0 := fun z => by rw [z, hp0] at q5; cases q5
    refine .inr (.inl ⟨a0, p0, us, _, rfl, rfl, (upd_ne ne).trans q5, upd_same, by rw [q6.len, List.length_map, sizeLine_eq]; exact hz, fun p hp => ?_⟩)
    obtain ⟨R1, _⟩ := R.newOwn (bls_reps bs) hp0
    obtain ⟨R2, o2⟩ := R1.newOwn (q6.app (bls_reps bs)) hp
    have R3 := R2.asgO e o2
    exact k w _ _ Ext.refl R3 (by unfold HasE; rw [List.getElem?_set_ne hix]; exact he)
theorem u_app {i : Nat} {y : Str} {f : Expr} {p4 cpos apos : Pos} (hi : X.N[i]? = some y) (hv : Vis X.env.scope y) (hd : (y == ("__debug__" : Str)) = false) (hcd : (y == ("__classdict__" : Str)) = false) (h : PE X f (tFl x a b))
    (hbase : attributeBase (.Name y p4) "append" X.env (eval (.Name y p4) X.env) = eval (.Name y p4) X.env) (hline : (apos.endLine == cpos.line) = true)
    (hfew : ((backTo cpos (starEach [f] X.env)).all (fun x => !x.1) && (backToKw cpos (keywordEach [] X.env)).all (fun x => x.1.isSome) && decide ([f].length + ([] : List Keyword).length + (if ([] : List Keyword).isEmpty then 0 else 1) < 30)) = true)
    (hs : starEach [f] X.env = (false, eval f X.env) :: starEach [] X.env) (hpl : (backTo cpos (starEach [] X.env)).any (·.1) = false) (hsw : swapsWith (.Call (.Attribute (.Name y p4) "append" apos) [f] [] cpos) none pos.line X.env = pure false) :
    PS X (.Expr (.Call (.Attribute (.Name y p4) "append" apos) [f] [] cpos) pos) (tU1 X.K x a (.app i b)) :=
  PSm (ps_expr (pe_bm PySem.F.plainAttrs_list PySem.F.slot_list_append PySem.F.type_list_append mt_append (pe_var hi hv hd hcd) (pa_cons h pa_nil hs) hbase hfew hline hs hpl) hsw) fun E σ H ⟨he, B, L, w, s, s', R, e, k⟩ => by
    obtain ⟨xs, hi', hz, rfl⟩ := uS_app e
    obtain ⟨a0, q1, q2, q3, q4, us, q5, q6⟩ := R.ow i _ hi'
    refine ⟨.ref a0, q1, .inl ⟨rfl, us, SqL.of q5⟩, he, a0, us, .bl b, rfl, rfl, q5, by rw [q6.len, sizeLine_eq]; exact hz, ?_⟩
    exact k w _ _ Ext.refl (R.mutOw hi' q1 ⟨_, upd_same, q6.app (Reps.one rep_bl)⟩) he
theorem Rel.empty {K : PySem.W.Frag} {B : Hp} {L : Nat → Option Addr} {w : Wr} {s : Sx} {σ : L2.St} {H : Hp} (r : Rel K B L w s σ H) {x : Nat} {v : Option V} (h : s.e[x]? = some none) : Rel K B L w s (σ.set x v) H := by
  have ne : ∀ (i : Nat) sl, s.e[i]? = some (some sl) → (σ.set x v)[i]? = σ[i]? := fun i sl hi => List.getElem?_set_ne fun z => by
    rw [z] at h
    rw [h] at hi
    cases hi
  exact {
    gh := r.gh
    bh := r.bh
    len := by rw [List.length_set]; exact r.len
    sh := fun i d hi => by rw [ne i _ hi]; exact r.sh i d hi
    ow := fun i d hi => by rw [ne i _ hi]; exact r.ow i d hi
    lk := fun i d hi => by rw [ne i _ hi]; exact r.lk i d hi
    lk' := r.lk'
    inj := fun i j d d' a hi hj => by rw [ne i _ hi, ne j _ hj]; exact r.inj i j d d' a hi hj
    cn := r.cn
    cl := r.cl
    cf := r.cf
    clen := r.clen }
theorem q_try {en cn : Str} {c : Value} {body suite : List Stmt} {b₀ : Stmt} {cb : Sts} {h : List (Str × List Us)} {np pos' : Pos} (hs : X.stack = X.env :: X.outer) (hf : X.env.frame = some X.env.locals) (hN : X.N.Nodup) (hi : X.N[x]? = some en) (hln : X.env.kindOf en = some .local) (hc : Names X cn c) (tk : Takes X W)
    (hb : ∀ (W : WX) (pn : List (Addr × Obj)) (xe : Value → Shared → Prop), Takes (X.tr pn xe) W → PassesOwn (model X.prog X.w) X.A X.env xe → PSs (X.tr pn xe) body (tSts X.K cls W F cb))
    (hsu : ∀ n us, h.lookup n = some us → ∀ (a : Addr) (oe : Obj) (pn : List (Addr × Obj)), Zc (cls n) none oe → (∃ vs, oe.data = .fields vs) → PSs (X.suite a ((a, oe) :: pn)) (b₀ :: suite) (tU X.K x a us))
    (hex : ∀ n us, h.lookup n = some us → PySem.W.exmOne X.K (cls n) c = some true) :
    PS X (.Try body [.ExceptHandler (some (.Name cn np)) (some en) (b₀ :: suite) pos'] [] [] pos) (tSt X.K cls W F (.tryx cb x h)) :=
  PSm (ps_try_as (ts := fun a cl d E σ H => ∃ n us, cl = cls n ∧ d = none ∧ h.lookup n = some us ∧ tU X.K x a us E σ H) hs hf hN hi hln hc tk hb
    (fun a oe cl d pn hz hf => ⟨fun pins s σ H E I ⟨n, us, e1, e2, hl, q⟩ => by
      subst e1 e2
      exact (hsu n us hl a oe pn hz hf).run pins s σ H E I q⟩)) fun E σ H ⟨B, L, w, s, f, R, e, k⟩ => by
    have e : (match evSs F cb s with
      | some (.exc n s1) => match h.lookup n with
        | some us => match s1.e[x]?, uSs us s1 with
          | some none, some s2 => match s2.e[x]? with
            | some none => some (.nx s2)
            | _ => none
          | _, _ => none
        | none => none
      | r => r) = some f := e
    cases e1 : evSs F cb s with
    | none => rw [e1] at e; cases e
    | some g =>
      rw [e1] at e
      refine ⟨B, L, w, s, g, R, e1, ?_⟩
      cases g with
      | nx s1 => cases e; exact k
      | brk s1 => cases e; exact k
      | cnt s1 => cases e; exact k
      | ret r s1 => cases e; exact k
      | exc n s1 =>
        dsimp only at e
        split at e
        · rename_i us hl
          split at e
          · rename_i s2 hx1 hx2
            split at e
            · rename_i hx3
              cases e
              intro w' σ' H' ex R'
              refine ⟨true, hex n us hl, fun _ a ha => ⟨n, us, rfl, rfl, hl, ?_, B, L, w', s1, s2, R'.empty hx1, hx2, fun w2 σ2 H2 ex2 R2 => ?_⟩, fun z => by cases z⟩
              · have hlt : x < σ'.length := by
                  rw [← R'.len]
                  by_cases hlt : x < s1.e.length
                  · exact hlt
                  · rw [List.getElem?_eq_none (by omega)] at hx1
                    cases hx1
                exact List.getElem?_set_self hlt
              · exact k w2 _ H2 (ex.trans ex2) (R2.empty hx3)
            · cases e
          · cases e
        · cases e
end
end PV
set_option maxHeartbeats 4000000
/-! A caught error that is kept behind its except suite. -/
namespace PV
open PySem PySem.Spec PyProof.Rows L2
/-- what stands at a kept error's place -/
def erO (a : Addr) (oe : Obj) : HO := .ext fun h => h.get? a = some oe
section
variable {X : Cx} {pins : List (Addr × Obj)} {σ : L2.St} {H : Hp} {s : Shared}
/-- an object that none tracks yet is tracked from now on -/
theorem track_ok (I : Inv X pins σ H s) {a : Addr} {oe : Obj} {vs : Array Value} (ha : s.heap.get? a = some oe) (hd : oe.data = .fields vs) (na : H a = none) (nL : a ≠ X.env.locals) (n0 : X.s_0.heap.get? a = none) (np : ∀ p ∈ X.pn ++ pins, p.1 ≠ a) :
    Inv X pins σ (upd H a (erO a oe)) s := by
  have off : ∀ {b : Addr} {u : HO}, H b = some u → upd H a (erO a oe) b = some u := fun {b u} e => by
    rw [upd_ne (fun z => by rw [z, na] at e; cases e)]
    exact e
  refine ⟨I.ok, I.os, I.bare, ⟨I.base.keep, I.base.slot, fun b o e n hx => ?_, I.base.there, fun b xs e => off (I.base.tups b xs e), fun b o u e => off (I.base.frzs b o u e), fun b ps e => ?_⟩, I.loc, I.cell, ?_, fun x c e => ?_, fun p hp => ?_, fun b u e => ?_, I.len⟩
  · rw [upd_ne (fun z => by rw [z, n0] at e; cases e)]
    exact I.base.free b o e n hx
  · obtain ⟨more, e1⟩ := I.base.tbls b ps e
    exact ⟨more, off e1⟩
  · rw [upd_ne (Ne.symm nL)]
    exact I.free
  · rw [upd_ne (fun z => ?_)]
    · exact I.freeC x c e
    · obtain ⟨v, o, ho, hv⟩ := I.cell x c e
      rw [z, ha] at ho
      cases ho
      rw [hd] at hv
      cases hv
  · obtain ⟨h1, h2, h3, h4, h5⟩ := I.pin p hp
    exact ⟨h1, by rw [upd_ne (np p hp)]; exact h2, h3, h4, h5⟩
  · by_cases z : b = a
    · subst z
      rw [upd_same] at e
      cases e
      exact ⟨ha, ⟨oe, ha⟩, fun h1 h2 p q => q _ p⟩
    · rw [upd_ne z] at e
      exact (I.hok b u e).stay (fun _ _ _ q => q) (fun _ q => off q) fun _ _ q => off q
/-- how a suite that keeps the error goes on -/
def keepE (a : Addr) (cl : Value) (i : Nat) (D : Ends) : Ends where
  nx := fun σ' H' => ∀ oe, Zc cl none oe → (∃ vs, oe.data = .fields vs) → D.nx (σ'.set i none) (upd H' a (erO a oe))
  rt := fun _ _ => False
  bk := fun _ _ => False
  ct := fun _ _ => False
/-- what the body's exceptions are to bring along -/
def wKeep (K : PySem.W.Frag) (c : Value) (i : Nat) (ts : Addr → Value → TS) (D : Ends) : WX := fun cl d σ H =>
  d = none ∧ PySem.W.exmOne K cl c = some true ∧ ∀ a, H a = none → ts a cl (keepE a cl i D) (σ.set i (some (.ref a))) H
end
section
variable {X : Cx} {x n : Str} {c : Value} {i : Nat} {body suite : List Stmt} {b₀ : Stmt} {np pos pos' : Pos} {tb : WX → TS} {ts : Addr → Value → TS}
theorem ps_try_keep (hx0 : X.ex = []) (hs : X.stack = X.env :: X.outer) (hf : X.env.frame = some X.env.locals) (hN : X.N.Nodup) (hi : X.N[i]? = some n) (hln : X.env.kindOf n = some .local) (hc : Names X x c)
    (hb : ∀ (W : WX) (pn : List (Addr × Obj)) (xe : Value → Shared → Prop), Takes (X.tr pn xe) W → PassesOwn (model X.prog X.w) X.A X.env xe → PSs (X.tr pn xe) body (tb W))
    (hsu : ∀ (a : Addr) (oe : Obj) (cl : Value) (pn : List (Addr × Obj)), Zc cl none oe → (∃ vs, oe.data = .fields vs) → PSs (X.suite a ((a, oe) :: pn)) (b₀ :: suite) (ts a cl)) :
    PS X (.Try body [.ExceptHandler (some (.Name x np)) (some n) (b₀ :: suite) pos'] [] [] pos) (fun D σ H => tb (wKeep X.K c i ts D) D σ H) := by
  refine ⟨fun pins s σ H D I0 h0 => ?_⟩
  have okX := I0.ok
  have frX : X.A.frames = some (X.env :: X.outer) := by rw [okX.frames, hs]
  have locX : Loc X.env.scope n := .inl hln
  refine wpAny_Try_except ?_
  have bodyRun := (hb (wKeep X.K c i ts D) (X.pn ++ pins) (fun e t₁ => wpAny (model X.prog X.w) X.A (noteFrame e X.env) (fun _ t₂ => wpAny (model X.prog X.w) X.A (setFlight e none) (fun _ t₃ => wpAny (model X.prog X.w) X.A (handleBy e X.env [.ExceptHandler (some (.Name x np)) (some n) (b₀ :: suite) pos']) (SP X pins D) X.xe t₃) X.xe t₂) X.xe t₁)
    (fun u tX hx => ?_) PassesOwn.looking).run [] s σ H D (I0.toTry _) h0
  · refine wpAny_mono bodyRun (fun fl t1 hsp => ?_) (fun e t1 he => he)
    cases fl with
    | next =>
      obtain ⟨σ1, H1, J1, q1⟩ := hsp
      exact wpAny_execs_nil ⟨σ1, H1, J1.ofTry okX, q1⟩
    | brk =>
      obtain ⟨σ1, H1, J1, q1⟩ := hsp
      exact ⟨σ1, H1, J1.ofTry okX, q1⟩
    | cont =>
      obtain ⟨σ1, H1, J1, q1⟩ := hsp
      exact ⟨σ1, H1, J1.ofTry okX, q1⟩
    | ret u =>
      obtain ⟨v1, σ1, H1, J1, r1, q1⟩ := hsp
      exact ⟨v1, σ1, H1, J1.ofTry okX, r1, q1⟩
  · obtain ⟨a, G, tI, pins1, σ1, H1, cl, d, rfl, JT, nb, up, sky, na, eos, eag, hd0, hex, hyes⟩ := hx
    subst hd0
    have JI : Inv X pins σ1 H1 tI := JT.ofTry okX
    have sky0 : Sky G (X.env :: X.outer) a (Zc cl none) X.env.locals tX.heap := by rw [← hs]; exact sky
    show wpAny (model X.prog X.w) X.A (noteFrame (.ref a) X.env) _ _ tX
    refine Sky.land Zc.steady frX hf sky0 fun g1 fy1 up1 => ?_
    have J1 : Inv X pins σ1 H1 { tX with heap := g1 } := JI.landed nb fy1.1 (up.trans up1) eos eag
    obtain ⟨oe1, vs1, ge1, gz1, gd1⟩ := fy1.there
    have gNone : G.get? a = none := fy1.2.1
    -- the error stands nowhere but at its own place
    have aFr : a ∉ frs (X.env :: X.outer) := fun hm => by
      obtain ⟨_, o2, e2, hno⟩ := fy1.2.2.1.mem hm
      rw [ge1] at e2
      cases e2
      exact hno _ gd1
    have aL : a ≠ X.env.locals := fun z => aFr (List.mem_filterMap.mpr ⟨X.env, List.mem_cons_self, by rw [hf, z]⟩)
    have aFs : a ∉ X.fs := fun hm => by
      obtain ⟨e, he, q⟩ := List.mem_filterMap.mp hm
      exact aFr (List.mem_filterMap.mpr ⟨e, List.mem_cons_of_mem _ he, q⟩)
    have aI : tI.heap.get? a = none := by
      cases hq : tI.heap.get? a with
      | none => rfl
      | some o =>
        have := nb a o hq (by rw [hs]; exact aFr)
        rw [gNone] at this
        cases this
    have a0 : X.s_0.heap.get? a = none := by
      cases hq : X.s_0.heap.get? a with
      | none => rfl
      | some o =>
        obtain ⟨o', e'⟩ := JI.base.there a o hq (by rw [hx0]; simp)
        rw [aI] at e'
        cases e'
    have aP : ∀ p ∈ X.pn ++ pins, p.1 ≠ a := fun p hp z => by
      have := (JI.pin p hp).1
      rw [z, aI] at this
      cases this
    have S1 := J1.suite ge1 gd1 na aL aFs
    refine wpAny_handleBy_cons (codeAny_handlers_test ?_) (by intro q; cases q)
    have lookT : PySem.W.Looks (model X.prog X.w) g1 (typeOf (.ref a)) cl := fun A Q E s k q => wpAny_typeOf_ref (k _ _ ge1) (by rw [gz1.1]; exact q)
    have lookM := PySem.W.exm_one (M := model X.prog X.w) (J1.kIn) lookT hex
    have asks : ∀ {Q : Value → Shared → Prop} {E : Value → Shared → Prop}, Q c { tX with heap := g1 } → wpAny (model X.prog X.w) (X.A.mark (some (.ref a))) (eval (.Name x np) X.env) Q E { tX with heap := g1 } := fun {Q E} q => by
      obtain ⟨hg, hdbg, hm | ⟨hm, hv, hnn⟩⟩ := hc
      · exact ld_glob (X := X.suite a ((a, oe1) :: (X.pn ++ pins))) S1 hg hm q hdbg
      · exact ld_blt (X := X.suite a ((a, oe1) :: (X.pn ++ pins))) S1 hg hm hv q hnn hdbg
    refine asks (lookM.here ?_)
    refine codeAny_handlers_suite_as ?_
    refine HandSPX.lands_againZ fy1 fun g2 fy2 up2 => ?_
    have J2 : Inv X pins σ1 H1 { tX with heap := g2 } := JI.landed nb fy2.1 ((up.trans up1).trans up2) eos eag
    obtain ⟨oe2, vs2, ge2, gz2, gd2⟩ := fy2.there
    have S2 := J2.suite ge2 gd2 na aL aFs
    refine store_ok (X := X.suite a ((a, oe2) :: (X.pn ++ pins))) (v := .ref a) S2 hN hi locX rfl (fun t3 S3 => ?_) (.inr hln)
    refine wpAny_mono ((hsu a oe2 cl (X.pn ++ pins) gz2 ⟨_, gd2⟩).run [] t3 _ H1 _ S3 (hyes a na)) (fun fl t4 hsp => ?_) (fun _ _ z => False.elim z)
    cases fl with
    | next =>
      obtain ⟨σ4, H4, S4, q4⟩ := hsp
      obtain ⟨p1, p2, _⟩ := S4.pin (a, oe2) (List.mem_append.mpr (.inl List.mem_cons_self))
      have T4 := track_ok (S4.unsuite okX) p1 gd2 p2 aL a0 aP
      exact gone_ok T4 hN hi hln fun t5 T5 => ⟨_, _, T5, q4 oe2 gz2 ⟨_, gd2⟩⟩
    | brk =>
      obtain ⟨σ4, H4, S4, q4⟩ := hsp
      exact q4.elim
    | cont =>
      obtain ⟨σ4, H4, S4, q4⟩ := hsp
      exact q4.elim
    | ret u =>
      obtain ⟨v4, σ4, H4, S4, r4, q4⟩ := hsp
      exact q4.elim
end
section
variable {X : Cx} {cls : Str → Value} {W : WX} {F : Cf} {pos p p2 p3 : Pos} {x i : Nat}
theorem set_thrice {σ : L2.St} {v v' : Option V} (h : i ≠ x) : ((σ.set x v).set i v').set x none = (σ.set i v').set x none := by
  rw [List.set_comm _ _ h, List.set_comm _ _ h, List.set_set, List.set_comm _ _ (Ne.symm h)]
theorem suite_keep {en y : Str} {p1 sp : Pos} {a : Addr} {cl : Value} (hN : X.N.Nodup) (hi : X.N[x]? = some en) (hiy : X.N[i]? = some y) (hly : Loc X.env.scope y) (hfy : X.fn y = true ∨ X.env.scope.names.lookup y = some .local) (hv : Vis X.env.scope en)
    (hd : (en == ("__debug__" : Str)) = false) (hcd : (en == ("__classdict__" : Str)) = false) (hsw : swapsWith (.Name en p2) (some (.Name y p1)) sp.line X.env = pure false) :
    PSs X [.Assign [.Name y p1] (.Name en p2) sp] (fun E σ H => HasE x a σ ∧ E.nx (σ.set i (some (.ref a))) H) :=
  PSsm (pss_cons (ps_set hN hiy hly (pe_var hi hv hd hcd) hsw hfy) pss_nil) fun E σ H ⟨he, k⟩ => ⟨.ref a, he, k⟩
theorem q_tryb {en cn y : Str} {c : Value} {body : List Stmt} {cb : Sts} {ns : List Str} {np pos' p1 sp : Pos} (hx0 : X.ex = []) (hs : X.stack = X.env :: X.outer) (hf : X.env.frame = some X.env.locals) (hN : X.N.Nodup) (hi : X.N[x]? = some en) (hln : X.env.kindOf en = some .local) (hc : Names X cn c)
    (hb : ∀ (W : WX) (pn : List (Addr × Obj)) (xe : Value → Shared → Prop), Takes (X.tr pn xe) W → PassesOwn (model X.prog X.w) X.A X.env xe → PSs (X.tr pn xe) body (tSts X.K cls W F cb))
    (hiy : X.N[i]? = some y) (hly : Loc X.env.scope y) (hfy : X.fn y = true ∨ X.env.scope.names.lookup y = some .local) (hix : i ≠ x) (hv : Vis X.env.scope en) (hd : (en == ("__debug__" : Str)) = false) (hcd : (en == ("__classdict__" : Str)) = false)
    (hns : ∀ n, ns.contains n = true → ∃ D, cls n = .ref D ∧ PySem.W.nsIn X.K mainGlobals n = some (some (.ref D)) ∧ PySem.W.exmOne X.K (cls n) c = some true)
    (hsw : swapsWith (.Name en p2) (some (.Name y p1)) sp.line X.env = pure false) :
    PS X (.Try body [.ExceptHandler (some (.Name cn np)) (some en) [.Assign [.Name y p1] (.Name en p2) sp] pos'] [] [] pos) (tSt X.K cls W F (.tryb cb x i ns)) :=
  PSm (ps_try_keep (tb := fun W => tSts X.K cls W F cb) (ts := fun a cl E σ H => HasE x a σ ∧ E.nx (σ.set i (some (.ref a))) H) (b₀ := .Assign [.Name y p1] (.Name en p2) sp) (suite := []) hx0 hs hf hN hi hln hc hb
    (fun a oe cl pn hz hf => suite_keep (X := X.suite a ((a, oe) :: pn)) (a := a) (cl := cl) hN hi hiy hly hfy hv hd hcd hsw)) fun E σ H ⟨B, L, w, s, f, R, e, k⟩ => by
    have e : (match evSs F cb s with
      | some (.exc n s1) => if ns.contains n then match s1.e[x]? with
        | some none => nxO (asgD i .sh (.err n) s1)
        | _ => none else none
      | r => r) = some f := e
    cases e1 : evSs F cb s with
    | none => rw [e1] at e; cases e
    | some g =>
      rw [e1] at e
      refine ⟨B, L, w, s, g, R, e1, ?_⟩
      cases g with
      | nx s1 => cases e; exact k
      | brk s1 => cases e; exact k
      | cnt s1 => cases e; exact k
      | ret r s1 => cases e; exact k
      | exc n s1 =>
        dsimp only at e
        split at e
        · rename_i hn
          split at e
          · rename_i hx1
            obtain ⟨D, d1, d2, d3⟩ := hns n hn
            cases ha : asgD i .sh (.err n) s1 with
            | none => rw [ha] at e; cases e
            | some s2 =>
              rw [ha] at e
              cases e
              intro w' σ' H' ex R'
              refine ⟨rfl, d3, fun a na => ⟨?_, fun oe hz hfs => ?_⟩⟩
              · have hlt : x < σ'.length := by
                  rw [← R'.len]
                  by_cases hlt : x < s1.e.length
                  · exact hlt
                  · rw [List.getElem?_eq_none (by omega)] at hx1
                    cases hx1
                exact List.getElem?_set_self hlt
              · rw [set_thrice hix]
                obtain ⟨R2, x2⟩ := R'.laid (o := erO a oe) na
                obtain ⟨hl, rfl⟩ := asgD_some ha
                have rp : Rep X.K { w' with G := upd w'.G a (erO a oe) } (.err n) (.ref a) := by
                  unfold Rep
                  rw [d1] at hz
                  exact ⟨a, oe, D, rfl, upd_same, d2, hz, hfs⟩
                have R3 := R2.put (x := some ⟨.sh, .err n⟩) (v := .ref a) hl fun k' d' e' => by
                  cases e'
                  exact .inl ⟨rfl, rp⟩
                have R4 := R3.empty (x := x) (v := none) (by
                  show (s1.e.set i (some ⟨.sh, .err n⟩))[x]? = some none
                  rw [List.getElem?_set_ne hix]
                  exact hx1)
                exact k _ _ _ (ex.trans x2) R4
          · cases e
        · cases e
/-! isinstance of a kept error -/
def ErrAt (H : Hp) (a D : Addr) : Prop := ∃ oe, H a = some (erO a oe) ∧ Zc (.ref D) none oe ∧ ∃ vs, oe.data = .fields vs
def rIsX (K : PySem.W.Frag) : List V → Hp → VK → Prop := fun xs H Q => ∃ (a D : Addr) (c : V) (u : Value) (b : Bool), xs = [.ref a, c] ∧ ErrAt H a D ∧ ExcC K D ∧ ClsV c u ∧ PySem.W.kitOne K (.ref D) u = some b ∧ Q (.bl b) H
def rIsXT (K : PySem.W.Frag) : List V → Hp → VK → Prop := fun xs H Q => ∃ (a D tp : Addr) (cs : List V) (us : List Value) (b : Bool), xs = [.ref a, .ref tp] ∧ H tp = some (.tup cs) ∧ ErrAt H a D ∧ ExcC K D ∧ Paired ClsV cs us ∧ PySem.W.kitAny K (.ref D) us = some b ∧ Q (.bl b) H
theorem err_at {pins : List (Addr × Obj)} {s : Shared} {σ : L2.St} {H : Hp} {a D : Addr} (I : Inv X pins σ H s) (h : ErrAt H a D) : ∃ oe, PySem.W.InstAt s.heap a oe D none := by
  obtain ⟨oe, e, hz, vs, hv⟩ := h
  obtain ⟨hget, _, _⟩ := (show ObjOk X.prog X.w H s.heap a (erO a oe) from I.hok a _ e)
  refine ⟨oe, ?_⟩
  obtain ⟨oc, od, oda, osl⟩ := oe
  obtain ⟨h1, h2⟩ := hz
  dsimp only at h1 h2 hv
  subst h1 h2 hv
  exact ⟨hget, rfl, rfl, trivial⟩
theorem call_isX : CallR X (.builtin "isinstance") (rIsX X.K) := by
  intro pins s σ H xs us Q I r h
  obtain ⟨a, D, c, u, b, rfl, he, C, k, e, q⟩ := h
  obtain ⟨u1, u2, rfl, r1, r2⟩ := vals2 r
  cases (show u1 = Value.ref a from r1)
  have e2 := k.eq r2
  subst e2
  obtain ⟨oe, J⟩ := err_at I he
  exact PySem.W.kia_one (PySem.W.handS_kitx_exc C.hg C.hk C.hs C.hd C.ha C.hn C.ht C.hm) I.kIn J e (fun z => nomatch z) fun tk => ⟨.bl b, H, I.tok tk, rfl, q⟩
theorem call_isXT : CallR X (.builtin "isinstance") (rIsXT X.K) := by
  intro pins s σ H xs us Q I r h
  obtain ⟨a, D, tp, cs, ws, b, rfl, hT, he, C, k, e, q⟩ := h
  obtain ⟨u1, u2, rfl, r1, r2⟩ := vals2 r
  cases (show u1 = Value.ref a from r1)
  cases (show u2 = Value.ref tp from r2)
  obtain ⟨oe, J⟩ := err_at I he
  obtain ⟨_, its, rv, o, h1, h2, m, h3⟩ := (show ObjOk X.prog X.w H s.heap tp (.tup cs) from I.hok tp _ hT)
  have e3 := ClsV.all k rv
  subst e3
  obtain ⟨oc, od, dt, sl⟩ := o
  simp only at h2 h3
  subst h2 h3
  exact PySem.W.kia_tup (PySem.W.handS_kitx_exc C.hg C.hk C.hs C.hd C.ha C.hn C.ht C.hm) I.kIn J h1 e (fun z => nomatch z) fun tk => ⟨.bl b, H, I.tok tk, rfl, q⟩
theorem err_rd {K : PySem.W.Frag} {B : Hp} {L : Nat → Option Addr} {w : Wr} {s : Sx} {σ : L2.St} {H : Hp} {n : Str} {v : V} (r : Rel K B L w s σ H) (h : RdOk K w H (.err n) v) : ∃ a D, v = .ref a ∧ ErrAt H a D ∧ PySem.W.nsIn K mainGlobals n = some (some (.ref D)) := by
  rcases h with h | ⟨a, _, h⟩
  · unfold Rep at h
    obtain ⟨a, oe, D, rfl, h1, h2, h3, h4⟩ := h
    exact ⟨a, D, rfl, ⟨oe, r.gh _ _ h1, h3, h4⟩, h2⟩
  · exact h.elim
/-- what is known of a table of isinstance's answers -/
def TabOk (K : PySem.W.Frag) (tab : List (Str × Bool)) (us : List Value) : Prop := ∀ n b, tab.lookup n = some b → ∃ D, PySem.W.nsIn K mainGlobals n = some (some (.ref D)) ∧ ExcC K D ∧ PySem.W.kitAny K (.ref D) us = some b
theorem kit_sole {K : PySem.W.Frag} {t u : Value} {b : Bool} (h : PySem.W.kitAny K t [u] = some b) : PySem.W.kitOne K t u = some b := by
  unfold PySem.W.kitAny at h
  split at h
  · rename_i e
    rw [e]
    exact h
  · rename_i e
    rw [e]
    exact h
  · cases h
variable {a : Expr} {ca : Ex}
theorem r_isx1 {e : Expr} {c : V} {u : Value} {tab : List (Str × Bool)} (hg : Gl X "isinstance") (hm : X.mg "isinstance" = none) (he : PE X e (tC c)) (hc : ClsV c u) (ht : TabOk X.K tab [u]) (ha : PE X a (tE X.K cls W F ca)) (hs : starEach (a :: [e]) X.env = (false, eval a X.env) :: starEach [e] X.env) (hs2 : starEach [e] X.env = (false, eval e X.env) :: starEach [] X.env) :
    PE X (.Call (.Name "isinstance" p) [a, e] [] pos) (tE X.K cls W F (.isx ca tab)) :=
  PEm (pe_callB call_isX hg hm (by decide +kernel) (pa_cons ha (pa_cons he pa_nil hs2) hs) (by decide +kernel) (by decide +kernel) hs (by rw [hs2]; rfl)) fun σ H Q ⟨B, L, w, s, o, hR, e, k, hx⟩ => by
    rw [evE] at e
    refine tE_bd hR e hx fun x s1 w1 v1 H1 x1 R1 o1 e1 hx1 => ?_
    obtain ⟨d, l, e2⟩ := lkp_some e1
    obtain ⟨r, e3, rfl⟩ := op_some e2
    unfold isxD at e3
    split at e3
    · rename_i n
      split at e3
      · rename_i b hl
        cases e3
        obtain ⟨a0, D, rfl, h1, h2⟩ := err_rd R1 (R1.rd l o1)
        obtain ⟨D', g1, g2, g3⟩ := ht n b hl
        rw [h2] at g1
        cases g1
        exact ⟨a0, D, c, u, b, rfl, h1, g2, hc, kit_sole g3, k _ _ rfl w1 _ H1 x1 R1 (res_sh rep_bl)⟩
      · cases e3
    · cases e3
theorem r_isxT {es : List Expr} {k0 : Nat} {cs : List V} {us : List Value} {tab : List (Str × Bool)} (hg : Gl X "isinstance") (hm : X.mg "isinstance" = none) (he : PA X es (fun σ H Q => Q cs H)) (hl : cs.length ≤ 1000) (hc : Paired ClsV cs us) (ht : TabOk X.K tab us) (ha : PE X a (tE X.K cls W F ca))
    (hs : starEach (a :: [.Tuple es k0 p2]) X.env = (false, eval a X.env) :: starEach [.Tuple es k0 p2] X.env) :
    PE X (.Call (.Name "isinstance" p) [a, .Tuple es k0 p2] [] pos) (tE X.K cls W F (.isx ca tab)) :=
  PEm (pe_callB call_isXT hg hm (by decide +kernel) (pa_cons ha (pa_cons (pe_tup he) pa_nil) hs) (by decide +kernel) (by decide +kernel) hs) fun σ H Q ⟨B, L, w, s, o, hR, e, k, hx⟩ => by
    rw [evE] at e
    refine tE_bd hR e hx fun x s1 w1 v1 H1 x1 R1 o1 e1 hx1 => ?_
    obtain ⟨d, l, e2⟩ := lkp_some e1
    obtain ⟨r, e3, rfl⟩ := op_some e2
    unfold isxD at e3
    split at e3
    · rename_i n
      split at e3
      · rename_i b hb
        cases e3
        obtain ⟨D', g1, g2, g3⟩ := ht n b hb
        refine ⟨by rw [sizeLine_eq]; omega, fun q hq => ?_⟩
        have R2 := R1.beside (o := .tup cs) hq
        obtain ⟨a0, D, rfl, h1, h2⟩ := err_rd R2 (R2.rd l o1)
        rw [h2] at g1
        cases g1
        exact ⟨a0, _, q, cs, us, b, rfl, upd_same, h1, g2, hc, g3, k _ _ rfl w1 _ _ x1 R2 (res_sh rep_bl)⟩
      · cases e3
    · cases e3
end
end PV
set_option maxHeartbeats 4000000
/-! From the given syntax to the slim one. -/
namespace PV
open PySem PySem.Spec PyProof.Rows L2
def isLst : Expr → Bool
  | .List _ _ => true
  | _ => false
/-- a new list, not by a display -/
def isCelE : Expr → Bool
  | .BinOp (.List _ _) .Mult _ _ => true
  | .Call (.Name x _) [_] [] _ => decide (x = "list")
  | _ => false
/-- what is known of the own exceptions: their names; of each that an except may meet what isinstance tells; the class that except names; and the defs that local names hold -/
structure Exq where
  names : List Str
  tri : List (Str × List (Str × Bool))
  top : Str
  fv : List Str
structure Cg where
  N : List Str
  nm : List (Str × NameKind)
  fns : List (Str × Bool)
  con : List (Str × D)
  exc : Exq
  cel : Nat
/-- isinstance of a caught error of the class n -/
def TriOk (K : PySem.W.Frag) (mg : Str → Option Value) (cls : Str → Value) (top n : Str) (fl : List (Str × Bool)) : Prop := ∃ D C, cls n = .ref D ∧ ExcC K D ∧ mg top = some (.ref C) ∧ (top == ("__debug__" : Str)) = false ∧ PySem.W.exmOne K (.ref D) (.ref C) = some true ∧ PySem.W.nsIn K mainGlobals n = some (some (.ref D)) ∧
  ∀ c b, fl.lookup c = some b → (c == ("__debug__" : Str)) = false ∧ ((∃ E, mg c = some (.ref E) ∧ PySem.W.kitOne K (.ref D) (.ref E) = some b) ∨ (c = "ValueError" ∧ mg c = none ∧ PySem.W.kitOne K (.ref D) (.type "ValueError") = some b))
/-- what is known where a piece of syntax stands -/
structure Ctx (X : Cx) (g : Cg) (cls : Str → Value) (W : WX) (F : Cf) : Prop where
  hN : X.N = g.N
  nd : X.N.Nodup
  calm : X.calm = true
  tk : Takes X W
  room : ∃ k, Room k X.A
  dbg : ∀ x, x ∈ g.N → (x == ("__debug__" : Str)) = false ∧ (x == ("__classdict__" : Str)) = false
  kind : X.env.scope.kind = .function
  lcl : ∀ x, g.nm.lookup x = some .local → X.env.scope.names.lookup x = some .local
  cll : ∀ x, g.nm.lookup x = some .cell → X.env.scope.names.lookup x = some .cell
  cfn : ∀ x, g.nm.lookup x = some .cell → X.fn x = true
  fre : ∀ x, g.nm.lookup x = some .free → X.env.scope.names.lookup x = some .cell ∨ X.env.scope.names.lookup x = some .free
  gl : ∀ x, g.nm.lookup x = some .globalImplicit → Gl X x
  blt : ∀ x, x ∈ (["len", "abs", "min", "max", "sum", "list", "int", "all", "str", "sorted", "range", "enumerate", "zip", "isinstance", "bool", "tuple", "set"] : List Str) → X.mg x = none
  fn : ∀ f b, g.fns.lookup f = some b → FnAt X cls F f
  con : ∀ x d, g.con.lookup x = some d → (x == ("__debug__" : Str)) = false ∧ ∃ u v, X.mg x = some u ∧ RelV v u ∧ ∀ w, Rep X.K w d v
  tri : ∀ n fl, g.exc.tri.lookup n = some fl → TriOk X.K X.mg cls g.exc.top n fl
  fv : ∀ f, f ∈ g.exc.fv → FnAt X cls F f ∧ ∃ a, PySem.W.nsIn X.K mainGlobals f = some (some (.ref a)) ∧ X.mg f = some (.ref a)
  exc : ∀ x, x ∈ g.exc.names → (x == ("__debug__" : Str)) = false ∧ ∃ C, X.mg x = some (.ref C) ∧ cls x = .ref C ∧ PySem.W.keepIn X.K (.ref C) = true ∧ PySem.W.subIn X.K (.ref C) (.type "BaseException") = some true ∧ PySem.W.typeIn X.K (.ref C) = some (.type "type") ∧
    PySem.W.excIn X.K C [.type "ValueError", .type "Exception", .type "BaseException", .type "object"] "ValueError.__new__" = true
  top : g.cel = 3 → X.stack = X.env :: X.outer ∧ X.env.frame = some X.env.locals
/-! ### the function -/
def bopOf : Operator → Option Bop
  | .Add => some .add | .Sub => some .sub | .Mult => some .mul | .FloorDiv => some .fdiv | .Mod => some .mod | .Pow => some .pow | .RShift => some .shr | .BitAnd => some .band
  | _ => none
def copOf : CmpOp → Option Cop
  | .Eq => some .eq | .NotEq => some .ne | .Lt => some .lt | .LtE => some .le | .Gt => some .gt | .GtE => some .ge | .Is => some .is | .IsNot => some .isn | .In => some .mem | .NotIn => some .nmem
def bltOf (x : Str) : Option Blt :=
  if x = "len" then some .len else if x = "abs" then some .abs else if x = "min" then some .min else if x = "max" then some .max else if x = "sum" then some .sum else if x = "list" then some .list else if x = "int" then some .int else if x = "all" then some .all else if x = "sorted" then some .sorted else if x = "str" then some .str else none
def tyOf (x : Str) : Option Ty :=
  if x = "int" then some .int else if x = "bool" then some .bool else if x = "str" then some .str else if x = "list" then some .list else if x = "tuple" then some .tuple else none
def ixOf (x : Str) : List Str → Option Nat
  | [] => none
  | y :: r => if x = y then some 0 else match ixOf x r with
    | some i => some (i + 1)
    | none => none
/-- a name of the def: its slot -/
def cSlot (g : Cg) (x : Str) : Option Nat := match g.nm.lookup x with
  | some .local => ixOf x g.N
  | some .cell => ixOf x g.N
  | some .free => ixOf x g.N
  | _ => none
/-- .. that is stored -/
def cStore (g : Cg) (x : Str) : Option Nat := match g.nm.lookup x with
  | some .local => ixOf x g.N
  | some .cell => ixOf x g.N
  | _ => none
def cName (g : Cg) (x : Str) : Option Ex := match g.nm.lookup x with
  | some .globalImplicit => match g.con.lookup x with
    | some d => some (.con d)
    | none => none
  | _ => match cSlot g x with
    | some i => some (.var i)
    | none => none
def isGlob (g : Cg) (x : Str) : Bool := match g.nm.lookup x with
  | some .globalImplicit => true
  | _ => false
def cEs (f : Expr → Option Ex) : List Expr → Option Exs
  | [] => some .nil
  | e :: r => match f e, cEs f r with
    | some c, some cs => some (.cons c cs)
    | _, _ => none
/-- a new list is to have an identity -/
def cW (on : Bool) (e : Expr) (c : Ex) : Ex := if (on && isCelE e) = true then .celOf c else c
def cEsW (on : Bool) (f : Expr → Option Ex) : List Expr → Option Exs
  | [] => some .nil
  | e :: r => match f e, cEsW on f r with
    | some c, some cs => some (.cons (cW on e c) cs)
    | _, _ => none
def cEo (f : Expr → Option Ex) : Option Expr → Option Exo
  | none => some .none
  | some e => match f e with
    | some c => some (.some c)
    | none => none
def cTy (g : Cg) : Expr → Option Ty
  | .Name x _ => if isGlob g x then tyOf x else none
  | _ => none
def cTys (g : Cg) : List Expr → Option (List Ty)
  | [] => some []
  | e :: r => match cTy g e, cTys g r with
    | some t, some ts => some (t :: ts)
    | _, _ => none
/-- own classes by their names -/
def cCls (g : Cg) : List Expr → Option (List Str)
  | [] => some []
  | .Name x _ :: r => match cCls g r with
    | some xs => if isGlob g x then some (x :: xs) else none
    | none => none
  | _ => none
def anyX (fl : List (Str × Bool)) : List Str → Option Bool
  | [] => some false
  | c :: r => match fl.lookup c, anyX fl r with
    | some b, some b' => some (b || b')
    | _, _ => none
def isxTab (cns : List Str) : List (Str × List (Str × Bool)) → Option (List (Str × Bool))
  | [] => some []
  | (n, fl) :: r => match anyX fl cns, isxTab cns r with
    | some b, some t => some ((n, b) :: t)
    | _, _ => none
def cIsx (g : Cg) (es : List Expr) : Option (List (Str × Bool)) := match cCls g es with
  | some cns => if cns.length ≤ 1000 ∧ g.exc.tri.isEmpty = false then isxTab cns g.exc.tri else none
  | none => none
def cNames (g : Cg) : List Expr → Option (List Nat)
  | [] => some []
  | .Name x _ :: r => match cStore g x, cNames g r with
    | some i, some is => some (i :: is)
    | _, _ => none
  | _ => none
def cTg (g : Cg) : Expr → Option Tg
  | .Name x _ => match cStore g x with
    | some i => some (.nm i)
    | none => none
  | .Tuple es _ _ => match cNames g es with
    | some is => some (.tp is)
    | none => none
  | _ => none
def isIf : Expr → Bool
  | .IfExp .. => true
  | _ => false
def isOrv : Ex → Bool
  | .orv .. => true
  | _ => false
def isTupE : Ex → Bool
  | .tup _ => true
  | _ => false
def isTup : Expr → Bool
  | .Tuple .. => true
  | _ => false
def cT (f : Expr → Option Ex) (e : Expr) : Option Ex := if isIf e then none else match f e with
  | some c => if isOrv c then none else some c
  | none => none
def cSrc (g : Cg) (f : Expr → Option Ex) (tg : Expr) : Expr → Option Src
  | .Call (.Name x p) as [] pos => if isGlob g x then
      if x = "range" then match cEs f as with
        | some (.cons a .nil) => some (.rng (.cons a .nil))
        | some (.cons a (.cons b .nil)) => some (.rng (.cons a (.cons b .nil)))
        | some (.cons a (.cons b (.cons c .nil))) => some (.rng (.cons a (.cons b (.cons c .nil))))
        | _ => none
      else if x = "enumerate" then (if isTup tg then match cEs f as with
        | some (.cons a .nil) => some (.enu a)
        | _ => none else none)
      else if x = "zip" then (if isTup tg then match cEs f as with
        | some (.cons a (.cons b .nil)) => some (.zip a b)
        | _ => none else none)
      else match f (.Call (.Name x p) as [] pos) with
        | some c => some (.seq c)
        | none => none
    else none
  | e => match f e with
    | some c => some (.seq c)
    | none => none
/-- a method's call -/
def mtOf1 (m : Str) : Option Mth := if m = "append" then some .append else if m = "pop" then some .popAt else if m = "extend" then some .extend else if m = "index" then some .index else if m = "count" then some .count else if m = "join" then some .join else if m = "split" then some .split else none
def cMt (f : Expr → Option Ex) (a : Expr) (m : Str) (es : List Expr) : Option Ex := match f a with
  | none => none
  | some ca => match es with
    | [] => if m = "pop" then some (.mt .pop ca .nil) else if m = "clear" then some (.mt .clear ca .nil) else none
    | [b] => match f b, mtOf1 m with
      | some cb, some k => some (.mt k ca (.cons cb .nil))
      | _, _ => none
    | [b, c] => match f b with
      | none => none
      | some cb => if m = "insert" then match f c with
          | some cc => some (.mt .insert ca (.cons cb (.cons cc .nil)))
          | none => none
        else if m = "get" then match c with
          | .Constant (.int j) _ _ => some (.mt .get ca (.cons cb (.cons (.con (.int j)) .nil)))
          | _ => none
        else none
    | _ => none
/-- range(..) that list() takes -/
def rngA : Expr → Option (List Expr)
  | .Call (.Name y _) as [] _ => if y = "range" then some as else none
  | _ => none
/-- set(x) that len() takes -/
def setA : Expr → Option Expr
  | .Call (.Name y _) [b] [] _ => if y = "set" then some b else none
  | _ => none
def cLr (g : Cg) (f : Expr → Option Ex) (as : List Expr) : Option Ex := if isGlob g "range" then match as with
    | [a] => match f a with
      | some ca => some (.blt .lrng (.cons ca .nil))
      | none => none
    | [a, b] => match f a, f b with
      | some ca, some cb => some (.blt .lrng (.cons ca (.cons cb .nil)))
      | _, _ => none
    | [a, b, c] => match f a, f b, f c with
      | some ca, some cb, some cc => some (.blt .lrng (.cons ca (.cons cb (.cons cc .nil))))
      | _, _, _ => none
    | _ => none
  else none
def isNin : CmpOp → Bool
  | .NotIn => true
  | _ => false
/-- a not in range(n) -/
def cNir (g : Cg) (f : Expr → Option Ex) (a : Expr) (op : CmpOp) (b : Expr) : Option Ex := if isNin op = true ∧ isGlob g "range" = true then match rngA b with
    | some [n] => match f a, f n with
      | some ca, some cn => some (.nir ca cn)
      | _, _ => none
    | _ => none
  else none
/-- the own names of a comprehension, with their places -/
def cOwn (N : List Str) : List (Str × NameKind) → Option (List (Str × Nat))
  | [] => some []
  | (x, k) :: r => match k, ixOf x N, cOwn N r with
    | .local, some i, some o => some ((x, i) :: o)
    | .cell, some i, some o => some ((x, i) :: o)
    | _, _, o => o
def isFn : ScopeKind → Bool
  | .function => true
  | _ => false
def blkB (g : Cg) (scope : Scope) (own : List (Str × Nat)) : Bool :=
  isFn scope.kind && (scope.names.all fun y => decide (scope.names.lookup y.1 = some y.2)) && (own.all fun p => decide (g.N[p.2]? = some p.1)) &&
    (scope.names.all fun y => match y.2 with
      | .free => (match g.nm.lookup y.1 with | some .cell => true | some .free => true | _ => false)
      | .local => decide (y.1 ∈ own.map (·.1)) || decide (y.1 ∉ g.N)
      | .cell => decide (y.1 ∈ own.map (·.1)) || decide (y.1 ∉ g.N)
      | _ => true)
def subs (is js : List Nat) : Bool := is.all fun i => js.contains i
/-- a comprehension whose element may raise -/
def cLcx (g : Cg) (rec : Cg → Expr → Option Ex) (elt tg iter : Expr) (ifs : List Expr) (scope : Scope) : Option Ex := match cSrc g (rec g) tg iter, cOwn g.N scope.names, ifs with
  | some src, some own, [] => if blkB g scope own then
      match cTg { g with nm := scope.names, cel := 0 } tg, rec { g with nm := scope.names, cel := 0 } elt with
      | some t, some ce => if subs t.slots (own.map (·.2)) then some (.lcx (own.map (·.2)) ce t src) else none
      | _, _ => none
    else none
  | _, _, _ => none
def cE1 (rec : Cg → Expr → Option Ex) (g : Cg) : Expr → Option Ex
  | .Constant (.int i) _ _ => some (.con (.int i))
  | .Constant (.bool b) _ _ => some (.con (.bl b))
  | .Constant .none _ _ => some (.con .non)
  | .Constant (.str x) _ _ => some (.con (.str x))
  | .Name x _ => cName g x
  | .BinOp a op b _ => match bopOf op, rec g a, rec g b with
    | some .pow, some (.con (.int i)), some (.con (.int j)) => if 0 ≤ j ∧ j ≤ 1000 ∧ i.natAbs < 18446744073709551616 then some (.con (.int (i ^ j.toNat))) else none
    | some o, some ca, some cb => some (.bin o ca cb)
    | _, _, _ => none
  | .UnaryOp .USub a _ => match rec g a with
    | some (.con (.int i)) => some (.con (.int (-i)))
    | some ca => some (.neg ca)
    | none => none
  | .UnaryOp .Not a _ => match cT (rec g) a with
    | some ca => some (.nt ca)
    | none => none
  | .BoolOp op [a] _ => cT (rec g) a
  | .BoolOp .And (a :: b :: r) pos => match cT (rec g) a, rec g (.BoolOp .And (b :: r) pos) with
    | some ca, some cb => if isOrv cb then none else some (.an ca cb)
    | _, _ => none
  | .BoolOp .Or (a :: b :: r) pos => match cT (rec g) a, rec g (.BoolOp .Or (b :: r) pos) with
    | some ca, some cb => if isOrv cb then none else if isTupE cb then some (.orv ca cb) else some (.orr ca cb)
    | _, _ => none
  | .Compare a [op] [b] _ => match cNir g (rec g) a op b with
    | some c => some c
    | none => match copOf op, rec g a, rec g b with
      | some o, some ca, some cb => some (.cmp o ca cb)
      | _, _, _ => none
  | .Compare a [op, op'] [b, c] _ => match copOf op, copOf op', rec g a, rec g b, rec g c with
    | some o, some o', some ca, some cb, some cc => some (.ch o o' ca cb cc)
    | _, _, _, _, _ => none
  | .Compare a [op, op', op''] [b, c, d] _ => match copOf op, copOf op', copOf op'', rec g a, rec g b, rec g c, rec g d with
    | some o, some o', some o'', some ca, some cb, some cc, some cd => some (.ch3 o o' o'' ca cb cc cd)
    | _, _, _, _, _, _, _ => none
  | .IfExp t a b _ => match cT (rec g) t, rec g a, rec g b with
    | some ct, some ca, some cb => some (.ife ct ca cb)
    | _, _, _ => none
  | .Tuple es _ _ => match cEs (rec g) es with
    | some cs => some (.tup cs)
    | none => none
  | .List es _ => match cEsW (decide (g.cel = 1)) (rec g) es with
    | some cs => some (if (decide (g.cel = 1) && !es.any fun e => isLst e || isCelE e) = true then .cel cs else .lst cs)
    | none => none
  | .Subscript a (.Slice none none (some (.UnaryOp .USub (.Constant (.int 1) _ _) _)) _) _ => match rec g a with
    | some ca => some (.rev ca)
    | none => none
  | .Subscript a (.Slice lo hi none _) _ => match rec g a, cEo (rec g) lo, cEo (rec g) hi with
    | some ca, some cl, some ch => some (.sl ca cl ch)
    | _, _, _ => none
  | .Subscript a b _ => match rec g a, rec g b with
    | some ca, some cb => some (.ix ca cb)
    | _, _ => none
  | .Call (.Name x _) (a :: es) [] _ => if isGlob g x then
      match g.fns.lookup x with
      | some sh => match cEs (rec g) (a :: es) with
        | some cs => some (.call sh x cs)
        | none => none
      | none => if x = "isinstance" then
          match rec g a, es with
          | some ca, [.Tuple ts _ _] => match cTys g ts with
            | some tys => if tys.length ≤ 8 then some (.isi ca tys) else none
            | none => match cIsx g ts with
              | some t => some (.isx ca t)
              | none => none
          | some ca, [e] => match cTy g e with
            | some t => some (.isi ca [t])
            | none => match cIsx g [e] with
              | some t => some (.isx ca t)
              | none => none
          | _, _ => none
        else match (if x = "list" ∧ es.isEmpty = true then rngA a else none) with
          | some as => cLr g (rec g) as
          | none => match (if x = "len" ∧ es.isEmpty = true then setA a else none) with
            | some b => if isGlob g "set" = true then match rec g b with
                | some cb => some (.lset cb)
                | none => none
              else none
            | none => match bltOf x, cEs (rec g) (a :: es) with
              | some f, some cs => some (.blt f cs)
              | _, _ => none
    else match cSlot g x, cEs (rec g) (a :: es) with
      | some i, some cs => some (.callV i g.exc.fv cs)
      | _, _ => none
  | .Call (.Attribute a m apos) es [] cpos => if apos.endLine == cpos.line then cMt (rec g) a m es else none
  | .Dict [] [] _ => some .dnew
  | .ListComp elt [⟨tg, iter, ifs, 0⟩] scope _ => if g.cel = 3 then cLcx g rec elt tg iter ifs scope else match cSrc g (rec g) tg iter, cOwn g.N scope.names with
    | some src, some own => if blkB g scope own then
        match cTg { g with nm := scope.names } tg, rec { g with nm := scope.names } elt, ifs with
        | some t, some ce, [] => if subs t.slots (own.map (·.2)) then some (.lc (own.map (·.2)) (cW (decide (g.cel ≠ 0)) elt ce) t src .none) else none
        | some t, some ce, [c] => match cT (rec { g with nm := scope.names }) c with
          | some cc => if subs t.slots (own.map (·.2)) then some (.lc (own.map (·.2)) (cW (decide (g.cel ≠ 0)) elt ce) t src (.some cc)) else none
          | none => none
        | _, _, _ => none
      else none
    | _, _ => none
  | _ => none
def cEn : Nat → Cg → Expr → Option Ex
  | 0 => fun _ _ => none
  | n + 1 => cE1 (cEn n)
abbrev cE (g : Cg) (n : Nat) (e : Expr) : Option Ex := cEn n g e
def isLc : Expr → Bool
  | .ListComp .. => true
  | _ => false
def cSs (f : Stmt → Option St) : List Stmt → Option Sts
  | [] => some .nil
  | s :: r => match f s, cSs f r with
    | some c, some cs => some (.cons c cs)
    | _, _ => none
/-- the flags of an except suite -/
def cFl (g : Cg) (en : Str) (fl : List (Str × Bool)) : Expr → Option Bool
  | .Call (.Name f _) [.Name e _, .Name c _] [] _ => if f = "isinstance" ∧ e = en then (if isGlob g f && isGlob g c then fl.lookup c else none) else none
  | .UnaryOp .Not a _ => match cFl g en fl a with
    | some b => some (!b)
    | none => none
  | _ => none
def cFls (g : Cg) (en : Str) (fl : List (Str × Bool)) : List Expr → Option (List Bool)
  | [] => some []
  | e :: r => match cFl g en fl e, cFls g en fl r with
    | some b, some bs => some (b :: bs)
    | _, _ => none
def cU (g : Cg) (x : Nat) (en : Str) (fl : List (Str × Bool)) : Stmt → Option Us
  | .Assign [.Name y _] (.List es _) _ => match cStore g y, cFls g en fl es with
    | some i, some bs => if i ≠ x ∧ bs.length ≤ 16777216 then some (.setL i bs) else none
    | _, _ => none
  | .Assign [.Name y _] (.BinOp (.Name z _) .Add (.List es _) _) _ => if y = z then match cStore g y, cSlot g y, cFls g en fl es with
    | some i, some _, some bs => if i ≠ x ∧ bs.length ≤ 16777216 then some (.addL i bs) else none
    | _, _, _ => none else none
  | .Expr (.Call (.Attribute (.Name y _) m apos) [f] [] cpos) _ => if m = "append" ∧ (apos.endLine == cpos.line) = true then match cSlot g y, cFl g en fl f with
    | some i, some b => some (.app i b)
    | _, _ => none else none
  | _ => none
def cUs (g : Cg) (x : Nat) (en : Str) (fl : List (Str × Bool)) : List Stmt → Option (List Us)
  | [] => some []
  | st :: r => match cU g x en fl st, cUs g x en fl r with
    | some u, some us => some (u :: us)
    | _, _ => none
def cTab (g : Cg) (x : Nat) (en : Str) (ss : List Stmt) : List (Str × List (Str × Bool)) → Option (List (Str × List Us))
  | [] => some []
  | (n, fl) :: r => match cUs g x en fl ss, cTab g x en ss r with
    | some us, some h => some ((n, us) :: h)
    | _, _ => none
/-- an except suite that keeps the error -/
def cKeep (g : Cg) (cb : Sts) (x : Nat) (en : Str) : List Stmt → Option St
  | [.Assign [.Name y _] (.Name z _) _] => if z = en then match cStore g y with
    | some i => if i ≠ x then some (.tryb cb x i (g.exc.tri.map (·.1))) else none
    | none => none else none
  | _ => none
def cTry (rec : Stmt → Option St) (g : Cg) (body : List Stmt) (cn en : Str) (suite : List Stmt) : Option St :=
  if cn = g.exc.top ∧ isGlob g cn = true ∧ g.nm.lookup en = some .local ∧ g.exc.tri.isEmpty = false then match ixOf en g.N, cSs rec body with
    | some x, some cb => match cTab g x en suite g.exc.tri with
      | some h => some (.tryx cb x h)
      | none => cKeep g cb x en suite
    | _, _ => none
  else none
def cS1 (rec : Stmt → Option St) (g : Cg) (m : Nat) : Stmt → Option St
  | .Assign [.Name x _] e _ => if g.cel = 3 ∧ isLc e = true then none else match cStore g x, cE g m e with
    | some i, some ce => some (.set i ce)
    | _, _ => none
  | .Assign [.Tuple ts _ _] e _ => if isTup e then none else match cNames g ts, cE g m e with
    | some is, some ce => some (.setT is ce)
    | _, _ => none
  | .Assign [.Subscript o (.Slice lo hi none _) _] e _ => match cE g m o, cEo (cE g m) lo, cEo (cE g m) hi, cE g m e with
    | some co, some cl, some ch, some ce => some (.setS co cl ch ce)
    | _, _, _, _ => none
  | .Assign [.Subscript o i _] e _ => match cE g m o, cE g m i, cE g m e with
    | some co, some ci, some ce => some (.setI co ci ce)
    | _, _, _ => none
  | .AugAssign (.Name x _) op e _ => match cStore g x, op, cE g m e with
    | some i, .Add, some ce => some (.aug i .add ce)
    | some i, .Sub, some ce => some (.aug i .sub ce)
    | _, _, _ => none
  | .AugAssign (.Subscript (.Name x _) ie _) op (.Constant (.int j) _ _) _ => match cSlot g x, cE g m ie, op with
    | some i, some ci, .Add => some (.augI i ci .add j)
    | some i, some ci, .Sub => some (.augI i ci .sub j)
    | _, _, _ => none
  | .Expr e _ => if isLc e then none else match cE g m e with
    | some ce => some (.ex ce)
    | none => none
  | .Return (some e) _ => match cE g m e with
    | some ce => some (.ret ce)
    | none => none
  | .Return none _ => some .retN
  | .If c a b _ => match cT (cE g m) c, cSs rec a, cSs rec b with
    | some cc, some ca, some cb => some (.ifs cc ca cb)
    | _, _, _ => none
  | .While c a [] _ => match cT (cE g m) c, cSs rec a with
    | some cc, some ca => some (.whl cc ca)
    | _, _ => none
  | .For tg iter a [] _ => match cSrc g (cE g m) tg iter, cTg g tg, cSs rec a with
    | some src, some t, some ca => some (.for t src ca)
    | _, _, _ => none
  | .Raise (some (.Call (.Name x _) [.Constant (.str _) _ _] [] _)) none _ => if isGlob g x && g.exc.names.contains x then some (.rai x) else none
  | .Pass _ => some .pas
  | .Break _ => some .brk
  | .Continue _ => some .cnt
  | .Try body [.ExceptHandler (some (.Name cn _)) (some en) (b₀ :: suite) _] [] [] _ => cTry rec g body cn en (b₀ :: suite)
  | _ => none
def cS (g : Cg) (m : Nat) : Nat → Stmt → Option St
  | 0 => fun _ => none
  | n + 1 => cS1 (cS g m n) g m
end PV
set_option maxHeartbeats 4000000
/-! The slim syntax's evaluator holds of the given syntax: expressions. -/
namespace PV
open PySem PySem.Spec PyProof.Rows L2
/-! ### small facts of the syntax -/
theorem star_ok {g : Cg} {n : Nat} {e : Expr} {c : Ex} (h : cE g n e = some c) (es : List Expr) (env : Env) : starEach (e :: es) env = (false, eval e env) :: starEach es env := by
  cases e with
  | Starred e p =>
    cases n with
    | zero => cases h
    | succ n => simp [cE, cEn, cE1] at h
  | _ => rfl
theorem notSet {g : Cg} {n : Nat} {e : Expr} {c : Ex} (h : cE g n e = some c) : (∀ op, behindInMarks op e = false) ∧ ∀ env x, foldedSetIterable e env x = pure x := by
  cases e with
  | Set es k p =>
    cases n with
    | zero => cases h
    | succ n => simp [cE, cEn, cE1] at h
  | _ => exact ⟨fun _ => rfl, fun _ _ => rfl⟩
theorem plainIx {g : Cg} {n : Nat} {e : Expr} {c : Ex} (h : cE g n e = some c) : PlainIx e := by
  cases e with
  | Slice a b s p =>
    cases n with
    | zero => cases h
    | succ n => simp [cE, cEn, cE1] at h
  | _ => exact fun _ _ => rfl
theorem noStars {g : Cg} {n : Nat} {pos : Pos} {env : Env} : ∀ {es : List Expr} {cs : Exs}, cEs (cE g n) es = some cs → (backTo pos (starEach es env)).any (·.1) = false
  | [], cs, h => rfl
  | e :: es, cs, h => by
    unfold cEs at h
    split at h
    · rename_i c cs' h1 h2
      rw [star_ok h1]
      show (false || (backTo pos (starEach es env)).any (·.1)) = false
      rw [Bool.false_or]
      exact noStars h2
    · cases h
theorem isTrue_plain' {e : Expr} (h1 : isIf e = false) (h2 : ∀ op vs p, e ≠ .BoolOp op vs p) (h3 : ∀ a ops cs p, e ≠ .Compare a ops cs p) (h4 : ∀ a p, e ≠ .UnaryOp .Not a p) (env : Env) (whole : Sem Value) : isTrue e env whole = (do let v ← whole; standAt e.pos; holding [v] (truthy v)) := by
  cases e with
  | IfExp => cases h1
  | BoolOp op vs p => exact absurd rfl (h2 op vs p)
  | Compare a ops cs p => exact absurd rfl (h3 a ops cs p)
  | UnaryOp op a p =>
    cases op with
    | Not => exact absurd rfl (h4 a p)
    | _ => rfl
  | _ => rfl
theorem bop_name {op : Operator} {o : Bop} (h : bopOf op = some o) : bopO o = op := by
  cases op <;> simp [bopOf] at h <;> subst h <;> rfl
theorem cop_name {op : CmpOp} {o : Cop} (h : copOf op = some o) : copO o = op := by
  cases op <;> simp [copOf] at h <;> subst h <;> rfl
theorem blt_name {x : Str} {f : Blt} (h : bltOf x = some f) : x = bltN f ∧ x ∈ (["len", "abs", "min", "max", "sum", "list", "int", "all", "str", "sorted", "range", "enumerate", "zip", "isinstance", "bool", "tuple", "set"] : List Str) := by
  unfold bltOf at h
  repeat' split at h
  all_goals first
    | (cases h; rename_i e; subst e; exact ⟨rfl, by decide +kernel⟩)
    | cases h
theorem ty_name {x : Str} {t : Ty} (h : tyOf x = some t) : x = tyS t ∧ x ∈ (["len", "abs", "min", "max", "sum", "list", "int", "all", "str", "sorted", "range", "enumerate", "zip", "isinstance", "bool", "tuple", "set"] : List Str) := by
  unfold tyOf at h
  repeat' split at h
  all_goals first
    | (cases h; rename_i e; subst e; exact ⟨rfl, by decide +kernel⟩)
    | cases h
theorem ixOf_get {x : Str} : ∀ {N : List Str} {i : Nat}, ixOf x N = some i → N[i]? = some x
  | [], i, h => by cases h
  | y :: r, i, h => by
    unfold ixOf at h
    split at h
    · rename_i e
      cases h
      rw [e]; rfl
    · split at h
      · rename_i j e
        cases h
        rw [List.getElem?_cons_succ]
        exact ixOf_get e
      · cases h
theorem isGlob_ok {g : Cg} {x : Str} (h : isGlob g x = true) : g.nm.lookup x = some .globalImplicit := by
  unfold isGlob at h
  split at h
  · assumption
  · cases h
section
variable {X : Cx} {g : Cg} {cls : Str → Value} {W : WX} {F : Cf}
theorem Ctx.slot (hX : Ctx X g cls W F) {x : Str} {i : Nat} (h : cSlot g x = some i) : X.N[i]? = some x ∧ Vis X.env.scope x := by
  unfold cSlot at h
  rw [hX.hN]
  split at h
  · rename_i e; exact ⟨ixOf_get h, .inl (hX.lcl x e)⟩
  · rename_i e; exact ⟨ixOf_get h, .inr (.inl (hX.cll x e))⟩
  · rename_i e
    refine ⟨ixOf_get h, ?_⟩
    rcases hX.fre x e with q | q
    · exact .inr (.inl q)
    · exact .inr (.inr q)
  · cases h
theorem Ctx.store (hX : Ctx X g cls W F) {x : Str} {i : Nat} (h : cStore g x = some i) : X.N[i]? = some x ∧ Loc X.env.scope x ∧ (X.fn x = true ∨ X.env.scope.names.lookup x = some .local) := by
  unfold cStore at h
  rw [hX.hN]
  split at h
  · rename_i e; exact ⟨ixOf_get h, .inl (hX.lcl x e), .inr (hX.lcl x e)⟩
  · rename_i e; exact ⟨ixOf_get h, .inr (hX.cll x e), .inl (hX.cfn x e)⟩
  · cases h
theorem Ctx.dbgAt (hX : Ctx X g cls W F) {x : Str} {i : Nat} (h : X.N[i]? = some x) : (x == ("__debug__" : Str)) = false ∧ (x == ("__classdict__" : Str)) = false := by
  rw [hX.hN] at h
  exact hX.dbg x (List.mem_of_getElem? h)
theorem name_ok (hX : Ctx X g cls W F) {x : Str} {p : Pos} {c : Ex} (h : cName g x = some c) : PE X (.Name x p) (tE X.K cls W F c) := by
  have sl : ∀ {i : Nat}, cSlot g x = some i → PE X (.Name x p) (tE X.K cls W F (.var i)) := fun {i} e => by
    obtain ⟨h1, h2⟩ := hX.slot e
    obtain ⟨d1, d2⟩ := hX.dbgAt h1
    exact r_var h1 h2 d1 d2
  unfold cName at h
  split at h
  · rename_i e
    split at h
    · rename_i d ec
      cases h
      obtain ⟨hd, u, v, hm, r, rp⟩ := hX.con x d ec
      exact r_con (pe_glob (hX.gl x e) hm r hd) rp
    · cases h
  · split at h
    · rename_i i e
      cases h
      exact sl e
    · cases h
/-- a target -/
theorem names_ok (hX : Ctx X g cls W F) : ∀ {es : List Expr} {is : List Nat}, cNames g es = some is → PGs X es (gNames is) ∧ (assignEach es X.env).length = is.length ∧ (assignEach es X.env).findIdx? (·.1) = none
  | [], is, h => by
    cases h
    exact ⟨pgs_nil, rfl, rfl⟩
  | e :: es, is, h => by
    cases e with
    | Name x p =>
      unfold cNames at h
      split at h
      · rename_i i js h1 h2
        cases h
        obtain ⟨g1, g2, g3⟩ := names_ok hX h2
        obtain ⟨s1, s2, s3⟩ := hX.store h1
        refine ⟨pgs_cons (pg_name hX.nd s1 s2 s3) g1, ?_, ?_⟩
        · show (assignEach es X.env).length + 1 = js.length + 1
          rw [g2]
        · show ((false, _) :: assignEach es X.env).findIdx? (·.1) = none
          rw [List.findIdx?_cons]
          rw [if_neg Bool.false_ne_true, g3]
          rfl
      · cases h
    | _ => cases h
theorem tg_ok (hX : Ctx X g cls W F) {e : Expr} {t : Tg} (h : cTg g e = some t) : PG X e (gOf X.K t) := by
  unfold cTg at h
  split at h
  · split at h
    · rename_i i e1
      cases h
      obtain ⟨s1, s2, s3⟩ := hX.store e1
      exact pg_name hX.nd s1 s2 s3
    · cases h
  · split at h
    · rename_i is e1
      cases h
      obtain ⟨g1, g2, g3⟩ := names_ok hX e1
      exact pg_tup hX.calm g1 g2 g3
    · cases h
  · cases h
/-- a block's scope -/
theorem lookup_free {sc : Scope} : ∀ {names : List (Str × NameKind)} {x : Str}, names.lookup x = some .free →
    (names.map fun (n, k) => if (k == NameKind.free && sc.kind == .function && sc.names.lookup n == some .cell) then (n, NameKind.cell) else (n, k)).lookup x = some .cell ∨
    (names.map fun (n, k) => if (k == NameKind.free && sc.kind == .function && sc.names.lookup n == some .cell) then (n, NameKind.cell) else (n, k)).lookup x = some .free
  | [], _, h => by simp at h
  | (n, k₀) :: r, x, h => by
    have ih := @lookup_free sc r x
    show List.lookup x ((if (k₀ == NameKind.free && sc.kind == .function && sc.names.lookup n == some .cell) = true then (n, NameKind.cell) else (n, k₀)) :: (r.map _)) = _ ∨ List.lookup x ((if (k₀ == NameKind.free && sc.kind == .function && sc.names.lookup n == some .cell) = true then (n, NameKind.cell) else (n, k₀)) :: (r.map _)) = _
    cases hx : x == n with
    | true =>
      simp only [List.lookup_cons, hx] at h
      cases h
      by_cases hc : (NameKind.free == NameKind.free && sc.kind == .function && sc.names.lookup n == some .cell) = true
      · rw [if_pos hc]; simp only [List.lookup_cons, hx]; exact .inl trivial
      · rw [if_neg hc]; simp only [List.lookup_cons, hx]; exact .inr trivial
    | false =>
      simp only [List.lookup_cons, hx] at h
      by_cases hc : (k₀ == NameKind.free && sc.kind == .function && sc.names.lookup n == some .cell) = true
      · rw [if_pos hc]; simp only [List.lookup_cons, hx]; exact ih h
      · rw [if_neg hc]; simp only [List.lookup_cons, hx]; exact ih h
theorem Ctx.blockX (hX : Ctx X g cls W F) {scope : Scope} (hk : isFn scope.kind = true) (s : Shared) (H : Hp) (C : Addr) (cl : List (Str × Addr)) (fp : List Addr) (xe : Value → Shared → Prop) {Wb : WX} (tk : Takes ((X.blk s H scope (compEnvC scope cl C X.env) fp).wish xe) Wb) (m : Nat) (hm : m ≠ 3) : Ctx ((X.blk s H scope (compEnvC scope cl C X.env) fp).wish xe) { g with nm := scope.names, cel := m } cls Wb F := by
  have hs : (compEnvC scope cl C X.env).scope = relS scope X.env.scope := rfl
  obtain ⟨k, hr⟩ := hX.room
  refine ⟨hX.hN, hX.nd, hX.calm, tk, ⟨k, hr⟩, hX.dbg, ?_, fun x h => ?_, fun x h => ?_, fun x h => ?_, fun x h => ?_, fun x h => ?_, hX.blt, fun f b h => ?_, hX.con, hX.tri, fun f h => ?_, hX.exc, fun h => absurd h hm⟩
  · show (compEnvC scope cl C X.env).scope.kind = _
    rw [hs]
    show scope.kind = _
    cases e : scope.kind <;> rw [e] at hk <;> first | rfl | cases hk
  · show (compEnvC scope cl C X.env).scope.names.lookup x = _
    rw [hs]
    exact lookup_relS_keep (by decide) h
  · show (compEnvC scope cl C X.env).scope.names.lookup x = _
    rw [hs]
    exact lookup_relS_keep (by decide) h
  · show (scope.names.lookup x == some .cell) = true
    have h' : scope.names.lookup x = some .cell := h
    rw [h']
    rfl
  · show (compEnvC scope cl C X.env).scope.names.lookup x = _ ∨ (compEnvC scope cl C X.env).scope.names.lookup x = _
    rw [hs]
    exact lookup_free h
  · show (compEnvC scope cl C X.env).scope.names.lookup x = _
    rw [hs]
    exact lookup_relS_keep (by decide) h
  · obtain ⟨d, a, fd, ps, j, h1, h2, h3, h4, h5⟩ := hX.fn f b h
    exact ⟨d, a, fd, ps, j, h1, h2, h3, h4, h5⟩
  · obtain ⟨⟨d, a, fd, ps, j, h1, h2, h3, h4, h5⟩, q⟩ := hX.fv f h
    exact ⟨⟨d, a, fd, ps, j, h1, h2, h3, h4, h5⟩, q⟩
theorem Ctx.block (hX : Ctx X g cls W F) {scope : Scope} (hk : isFn scope.kind = true) (hc : g.cel ≠ 3) (s : Shared) (H : Hp) (C : Addr) (cl : List (Str × Addr)) (fp : List Addr) : Ctx (X.blk s H scope (compEnvC scope cl C X.env) fp) { g with nm := scope.names } cls W0 F :=
  hX.blockX hk s H C cl fp (fun _ _ => False) takes0 g.cel hc
theorem blkB_ok (hX : Ctx X g cls W F) {scope : Scope} {own : List (Str × Nat)} (h : blkB g scope own = true) : BlkOk X.N X.env.scope scope own := by
  unfold blkB at h
  simp only [Bool.and_eq_true, List.all_eq_true, decide_eq_true_eq] at h
  obtain ⟨⟨⟨h1, h2⟩, h3⟩, h4⟩ := h
  refine ⟨?_, h2, fun p hp => by rw [hX.hN]; exact h3 p hp, fun y hy e => ?_, fun y hy e => ?_⟩
  · cases e : scope.kind <;> rw [e] at h1 <;> first | rfl | cases h1
  · have q := h4 y hy
    simp only [e] at q
    split at q
    · rename_i z; exact .inl (hX.cll _ z)
    · rename_i z; exact hX.fre _ z
    · cases q
  · have q := h4 y hy
    rw [hX.hN]
    rcases e with e | e <;> (simp only [e, Bool.or_eq_true, decide_eq_true_eq] at q; exact q)
theorem subs_ok {is js : List Nat} (h : subs is js = true) : ∀ i, i ∈ is → i ∈ js := fun i hi => by
  unfold subs at h
  have := List.all_eq_true.mp h i hi
  simpa using this
end
end PV
set_option maxHeartbeats 4000000
/-! The slim syntax's evaluator holds of the given syntax: all expressions, all statements. -/
namespace PV
open PySem PySem.Spec PyProof.Rows L2
structure EOk (X : Cx) (cls : Str → Value) (W : WX) (F : Cf) (e : Expr) (c : Ex) : Prop where
  pe : PE X e (tE X.K cls W F c)
  pt : isIf e = false → isOrv c = false → PT X e (tTr X.K cls W F c)
  pw : ∀ op vs p, e = .BoolOp op vs p → isOrv c = false → PW X e (tTr X.K cls W F c)
section
variable {X : Cx} {g : Cg} {cls : Str → Value} {W : WX} {F : Cf} {e : Expr} {c : Ex}
theorem eok (h : PE X e (tE X.K cls W F c)) (h2 : ∀ op vs p, e ≠ .BoolOp op vs p) (h3 : ∀ a ops cs p, e ≠ .Compare a ops cs p) (h4 : ∀ a p, e ≠ .UnaryOp .Not a p) : EOk X cls W F e c :=
  ⟨h, fun h1 _ => tr_val h (isTrue_plain' h1 h2 h3 h4 X.env), fun op vs p q _ => absurd q (h2 op vs p)⟩
/-- all that n steps of the function serve -/
abbrev Ih (F : Cf) (cls : Str → Value) (n : Nat) : Prop := ∀ {X : Cx} {g : Cg} {W : WX}, Ctx X g cls W F → ∀ {e : Expr} {c : Ex}, cE g n e = some c → EOk X cls W F e c
variable {n : Nat}
theorem es_ok (ih : Ih F cls n) (hX : Ctx X g cls W F) : ∀ {es : List Expr} {cs : Exs}, cEs (cE g n) es = some cs → PA X es (tAs X.K cls W F cs)
  | [], cs, h => by cases h; exact r_nil
  | e :: es, cs, h => by
    unfold cEs at h
    split at h
    · rename_i c cs' h1 h2
      cases h
      exact r_cons (ih hX h1).pe (es_ok ih hX h2) (star_ok h1 es X.env)
    · cases h
theorem cW_ok {on : Bool} {e : Expr} {c : Ex} {X : Cx} {cls : Str → Value} {W : WX} {F : Cf} (h : PE X e (tE X.K cls W F c)) : PE X e (tE X.K cls W F (cW on e c)) := by
  unfold cW
  split
  · exact r_celOf h
  · exact h
theorem esW_ok (ih : Ih F cls n) (hX : Ctx X g cls W F) : ∀ {on : Bool} {es : List Expr} {cs : Exs}, cEsW on (cE g n) es = some cs → PA X es (tAs X.K cls W F cs)
  | _, [], cs, h => by cases h; exact r_nil
  | _, e :: es, cs, h => by
    unfold cEsW at h
    split at h
    · rename_i c cs' h1 h2
      cases h
      exact r_cons (cW_ok (ih hX h1).pe) (esW_ok ih hX h2) (star_ok h1 es X.env)
    · cases h
theorem eo_ok (ih : Ih F cls n) (hX : Ctx X g cls W F) {o : Option Expr} {co : Exo} (h : cEo (cE g n) o = some co) : PO X o (tOp' X.K cls W F co) := by
  unfold cEo at h
  split at h
  · cases h; exact r_o0
  · split at h
    · rename_i c h1
      cases h
      exact r_o1 (ih hX h1).pe
    · cases h
theorem ct_ok (ih : Ih F cls n) (hX : Ctx X g cls W F) (h : cT (cE g n) e = some c) : PT X e (tTr X.K cls W F c) ∧ cE g n e = some c := by
  unfold cT at h
  split at h
  · cases h
  · rename_i hi
    split at h
    · rename_i c' h1
      split at h
      · cases h
      · rename_i ho
        cases h
        exact ⟨(ih hX h1).pt (by simpa using hi) (by simpa using ho), h1⟩
    · cases h
theorem blt_mem (hX : Ctx X g cls W F) {x : Str} (h : x ∈ (["len", "abs", "min", "max", "sum", "list", "int", "all", "str", "sorted", "range", "enumerate", "zip", "isinstance", "bool", "tuple", "set"] : List Str)) : X.mg x = none := hX.blt x h
theorem ty_ok (hX : Ctx X g cls W F) {t : Ty} (h : cTy g e = some t) : ∃ p, e = .Name (tyS t) p ∧ Gl X (tyS t) ∧ X.mg (tyS t) = none := by
  unfold cTy at h
  split at h
  · rename_i x p
    split at h
    · rename_i hg
      obtain ⟨e1, e2⟩ := ty_name h
      subst e1
      exact ⟨p, rfl, hX.gl _ (isGlob_ok hg), hX.blt _ e2⟩
    · cases h
  · cases h
/-- a class as a value, by its name -/
def clsV (X : Cx) (x : Str) : V × Value := match X.mg x with
  | some (.ref E) => (.ref E, .ref E)
  | _ => (.ty "ValueError", .type "ValueError")
theorem clsv_rel {x : Str} : ClsV (clsV X x).1 (clsV X x).2 := by
  unfold clsV
  split
  · exact .own _
  · exact .ty _
theorem clsv_kit (hX : Ctx X g cls W F) {n : Str} {fl : List (Str × Bool)} (h : g.exc.tri.lookup n = some fl) : ∃ D, PySem.W.nsIn X.K mainGlobals n = some (some (.ref D)) ∧ ExcC X.K D ∧ ∀ c b, fl.lookup c = some b → PySem.W.kitOne X.K (.ref D) (clsV X c).2 = some b := by
  obtain ⟨D, C, _, hC, _, _, _, hns, hk⟩ := hX.tri n fl h
  refine ⟨D, hns, hC, fun c b hb => ?_⟩
  obtain ⟨_, ⟨E, hm, hk⟩ | ⟨rfl, hm, hk⟩⟩ := hk c b hb
  · unfold clsV
    rw [hm]
    exact hk
  · unfold clsV
    rw [hm]
    exact hk
theorem anyX_mem {fl : List (Str × Bool)} : ∀ {cns : List Str} {b : Bool}, anyX fl cns = some b → ∀ c ∈ cns, ∃ b', fl.lookup c = some b'
  | [], _, _, c, hc => nomatch hc
  | d :: r, b, h, c, hc => by
    unfold anyX at h
    split at h
    · rename_i b1 b2 h1 h2
      rcases List.mem_cons.mp hc with rfl | hc
      · exact ⟨_, h1⟩
      · exact anyX_mem h2 c hc
    · cases h
theorem anyX_kit {K : PySem.W.Frag} {t : Value} {fl : List (Str × Bool)} {f : Str → Value} (hk : ∀ c b, fl.lookup c = some b → PySem.W.kitOne K t (f c) = some b) : ∀ {cns : List Str} {b : Bool}, anyX fl cns = some b → PySem.W.kitAny K t (cns.map f) = some b
  | [], _, h => by cases h; exact kitAny_nil
  | c :: r, b, h => by
    unfold anyX at h
    split at h
    · rename_i b1 b2 h1 h2
      cases h
      rw [List.map_cons]
      refine kitAny_cons (hk c b1 h1) (fun e => ?_) (fun e => by rw [e]; rfl)
      rw [e, Bool.false_or]
      exact anyX_kit hk h2
    · cases h
theorem isxTab_get {cns : List Str} : ∀ {tri : List (Str × List (Str × Bool))} {tab : List (Str × Bool)} {n : Str} {b : Bool}, isxTab cns tri = some tab → tab.lookup n = some b → ∃ fl, tri.lookup n = some fl ∧ anyX fl cns = some b
  | [], tab, n, b, h, hl => by cases h; cases hl
  | (m, fl) :: r, tab, n, b, h, hl => by
    unfold isxTab at h
    split at h
    · rename_i b1 t h1 h2
      cases h
      rw [List.lookup_cons] at hl ⊢
      split at hl
      · rename_i e
        cases hl
        exact ⟨fl, rfl, h1⟩
      · rename_i e
        exact isxTab_get h2 hl
    · cases h
theorem cls_pe (hX : Ctx X g cls W F) {x : Str} {p : Pos} (hg : isGlob g x = true) {n : Str} {fl : List (Str × Bool)} {b : Bool} (h : g.exc.tri.lookup n = some fl) (hb : fl.lookup x = some b) : PE X (.Name x p) (tC (clsV X x).1) := by
  obtain ⟨D, C, _, hC, _, _, _, hns, hk⟩ := hX.tri n fl h
  have hgc := hX.gl _ (isGlob_ok hg)
  obtain ⟨cd, ⟨E, hm, _⟩ | ⟨rfl, hm, _⟩⟩ := hk x b hb
  · unfold clsV
    rw [hm]
    exact pe_glob hgc hm rfl cd
  · unfold clsV
    rw [hm]
    exact pe_bltn hgc hm (by decide +kernel) rfl (by decide +kernel) (by decide +kernel)
theorem cls_pa (hX : Ctx X g cls W F) {n : Str} {fl : List (Str × Bool)} (h : g.exc.tri.lookup n = some fl) : ∀ {es : List Expr} {cns : List Str}, cCls g es = some cns → (∀ c ∈ cns, ∃ b, fl.lookup c = some b) → PA X es (fun σ H Q => Q (cns.map fun c => (clsV X c).1) H)
  | [], cns, e, _ => by
    cases e
    exact PAm pa_nil fun σ H Q q => q
  | e :: es, cns, hc, hm => by
    unfold cCls at hc
    split at hc
    · rename_i z; cases z
    · rename_i x p r z
      cases z
      split at hc
      · rename_i xs h2
        split at hc
        · rename_i hg
          cases hc
          obtain ⟨b, hb⟩ := hm x (List.mem_cons_self ..)
          exact PAm (pa_cons (cls_pe hX hg h hb) (cls_pa hX h h2 fun c hc => hm c (List.mem_cons_of_mem _ hc))) fun σ H Q q => q
        · cases hc
      · cases hc
    · cases hc
theorem clsv_all : ∀ cns : List Str, Paired ClsV (cns.map fun c => (clsV X c).1) (cns.map fun c => (clsV X c).2)
  | [] => .nil
  | _ :: r => .cons clsv_rel (clsv_all r)
theorem isx_ok (hX : Ctx X g cls W F) {es : List Expr} {tab : List (Str × Bool)} (h : cIsx g es = some tab) : ∃ cns : List Str, cCls g es = some cns ∧ cns.length ≤ 1000 ∧ PA X es (fun σ H Q => Q (cns.map fun c => (clsV X c).1) H) ∧ TabOk X.K tab (cns.map fun c => (clsV X c).2) := by
  unfold cIsx at h
  split at h
  · rename_i cns h1
    split at h
    · rename_i hc
      refine ⟨cns, h1, hc.1, ?_, fun n b hb => ?_⟩
      · cases ht : g.exc.tri with
        | nil => rw [ht] at hc; cases hc.2
        | cons q r =>
          obtain ⟨n0, fl0⟩ := q
          have hl : g.exc.tri.lookup n0 = some fl0 := by rw [ht, List.lookup_cons, beq_self_eq_true]
          refine cls_pa hX hl h1 ?_
          rw [ht] at h
          unfold isxTab at h
          split at h
          · rename_i b1 t g1 g2
            exact anyX_mem g1
          · cases h
      · obtain ⟨fl, g1, g2⟩ := isxTab_get h hb
        obtain ⟨D, k1, k2, k3⟩ := clsv_kit hX g1
        exact ⟨D, k1, k2, anyX_kit k3 g2⟩
    · cases h
  · cases h
theorem isx1_pe (hX : Ctx X g cls W F) {tab : List (Str × Bool)} (h : cIsx g [e] = some tab) : ∃ x p, e = .Name x p ∧ PE X e (tC (clsV X x).1) ∧ TabOk X.K tab [(clsV X x).2] := by
  obtain ⟨cns, h1, _, _, h4⟩ := isx_ok hX h
  have h1' := h1
  unfold cCls at h1
  split at h1
  · rename_i z; cases z
  · rename_i x p r z
    cases z
    split at h1
    · rename_i xs h2
      split at h1
      · rename_i hg
        cases h1
        cases h2
        refine ⟨x, p, rfl, ?_, h4⟩
        unfold cIsx at h
        rw [h1'] at h
        dsimp only at h
        split at h
        · rename_i hc
          cases ht : g.exc.tri with
          | nil => rw [ht] at hc; cases hc.2
          | cons q r =>
            obtain ⟨n0, fl0⟩ := q
            have hl : g.exc.tri.lookup n0 = some fl0 := by rw [ht, List.lookup_cons, beq_self_eq_true]
            rw [ht] at h
            unfold isxTab at h
            split at h
            · rename_i b1 t g1 g2
              obtain ⟨b, hb⟩ := anyX_mem g1 x (List.mem_cons_self ..)
              exact cls_pe hX hg hl hb
            · cases h
        · cases h
      · cases h1
    · cases h1
  · cases h1
theorem tys_ok (hX : Ctx X g cls W F) : ∀ {es : List Expr} {ts : List Ty}, cTys g es = some ts → ∃ ps : List Pos, ts.length = ps.length ∧ es = ((ts.zip ps).map fun q => .Name (tyS q.1) q.2) ∧ ∀ t, t ∈ ts → Gl X (tyS t) ∧ X.mg (tyS t) = none
  | [], ts, h => by cases h; exact ⟨[], rfl, rfl, fun t z => (nomatch z)⟩
  | e :: es, ts, h => by
    unfold cTys at h
    split at h
    · rename_i t ts' h1 h2
      cases h
      obtain ⟨p, rfl, g1, g2⟩ := ty_ok hX h1
      obtain ⟨ps, hl, rfl, ht⟩ := tys_ok hX h2
      refine ⟨p :: ps, by rw [List.length_cons, List.length_cons, hl], rfl, fun t' z => ?_⟩
      rcases List.mem_cons.mp z with rfl | z
      · exact ⟨g1, g2⟩
      · exact ht t' z
    · cases h
theorem src_ok (ih : Ih F cls n) (hX : Ctx X g cls W F) {tg iter : Expr} {src : Src} (h : cSrc g (cE g n) tg iter = some src) : PI X tg iter (tSrc X.K cls W F src) ∧ ∀ x, foldedSetIterable iter X.env x = pure x := by
  have gen : ∀ {e : Expr} {c : Ex}, cE g n e = some c → PI X tg e (tSrc X.K cls W F (.seq c)) ∧ ∀ x, foldedSetIterable e X.env x = pure x := fun {e c} h => ⟨r_seq (ih hX h).pe, (notSet h).2 X.env⟩
  have one : ∀ {es : List Expr} {ca : Ex}, cEs (cE g n) es = some (.cons ca .nil) → ∃ a, es = [a] ∧ cE g n a = some ca := fun {es ca} h => by
    cases es with
    | nil => cases h
    | cons a es =>
      unfold cEs at h
      split at h
      · rename_i c cs h1 h2
        cases h
        cases es with
        | nil => exact ⟨a, rfl, h1⟩
        | cons b es =>
          unfold cEs at h2
          split at h2 <;> cases h2
      · cases h
  have two : ∀ {es : List Expr} {ca cb : Ex}, cEs (cE g n) es = some (.cons ca (.cons cb .nil)) → ∃ a b, es = [a, b] ∧ cE g n a = some ca ∧ cE g n b = some cb := fun {es ca cb} h => by
    cases es with
    | nil => cases h
    | cons a es =>
      unfold cEs at h
      split at h
      · rename_i c cs h1 h2
        cases h
        obtain ⟨b, rfl, h3⟩ := one h2
        exact ⟨a, b, rfl, h1, h3⟩
      · cases h
  have three : ∀ {es : List Expr} {ca cb cc : Ex}, cEs (cE g n) es = some (.cons ca (.cons cb (.cons cc .nil))) → ∃ a b c, es = [a, b, c] ∧ cE g n a = some ca ∧ cE g n b = some cb ∧ cE g n c = some cc := fun {es ca cb cc} h => by
    cases es with
    | nil => cases h
    | cons a es =>
      unfold cEs at h
      split at h
      · rename_i c cs h1 h2
        cases h
        obtain ⟨b, d, rfl, h3, h4⟩ := two h2
        exact ⟨a, b, d, rfl, h1, h3, h4⟩
      · cases h
  unfold cSrc at h
  split at h
  · rename_i x p as pos
    split at h
    · rename_i hg
      have gl := hX.gl _ (isGlob_ok hg)
      split at h
      · rename_i ex
        subst ex
        have hm := hX.blt "range" (by decide +kernel)
        split at h
        · rename_i a h1
          cases h
          obtain ⟨ea, rfl, h2⟩ := one h1
          exact ⟨r_rng1 gl hm (ih hX h2).pe (star_ok h2 [] X.env), fun _ => rfl⟩
        · rename_i a b h1
          cases h
          obtain ⟨ea, eb, rfl, h2, h3⟩ := two h1
          exact ⟨r_rng2 gl hm (ih hX h2).pe (ih hX h3).pe (star_ok h2 [eb] X.env) (star_ok h3 [] X.env), fun _ => rfl⟩
        · rename_i a b c h1
          cases h
          obtain ⟨ea, eb, ec, rfl, h2, h3, h4⟩ := three h1
          exact ⟨r_rng3 gl hm (ih hX h2).pe (ih hX h3).pe (ih hX h4).pe (star_ok h2 [eb, ec] X.env) (star_ok h3 [ec] X.env) (star_ok h4 [] X.env), fun _ => rfl⟩
        · cases h
      · split at h
        · rename_i ex
          subst ex
          have hm := hX.blt "enumerate" (by decide +kernel)
          split at h
          · rename_i ht
            split at h
            · rename_i a h1
              cases h
              obtain ⟨ea, rfl, h2⟩ := one h1
              cases tg with
              | Tuple elts kk tp => exact ⟨r_enu gl hm (ih hX h2).pe (star_ok h2 [] X.env), fun _ => rfl⟩
              | _ => cases ht
            · cases h
          · cases h
        · split at h
          · rename_i ex
            subst ex
            have hm := hX.blt "zip" (by decide +kernel)
            split at h
            · rename_i ht
              split at h
              · rename_i a b h1
                cases h
                obtain ⟨ea, eb, rfl, h2, h3⟩ := two h1
                cases tg with
                | Tuple elts kk tp => exact ⟨r_zip gl hm (ih hX h2).pe (ih hX h3).pe (star_ok h2 [eb] X.env) (star_ok h3 [] X.env), fun _ => rfl⟩
                | _ => cases ht
              · cases h
            · cases h
          · split at h
            · rename_i c h1
              cases h
              exact gen h1
            · cases h
    · cases h
  · split at h
    · rename_i c h1
      cases h
      exact gen h1
    · cases h
theorem own_map : ∀ {N : List Str} {l : List (Str × NameKind)} {o : List (Str × Nat)}, cOwn N l = some o → True := fun _ => True.intro
end
section
variable {X : Cx} {cls : Str → Value} {W : WX} {F : Cf} {a b : Expr} {pos : Pos}
theorem con_rd {d : D} {B : Hp} {L : Nat → Option Addr} {w : Wr} {s : Sx} {σ : L2.St} {H : Hp} {Q : VK} (hR : Rel X.K B L w s σ H) (k : ∀ w' v H', Ext B w w' → Rel X.K B L w' s σ H' → Rep X.K w' d v → Q v H') : tE X.K cls W F (.con d) σ H Q :=
  ⟨B, L, w, s, .ok (.sh d) s, hR, by rw [evE]; rfl, fun r s' eo w' v H' ex R' res => by cases eo; exact k w' v H' ex R' res, xp_ok⟩
theorem r_pow0 {i j : Int} (h : 0 ≤ j ∧ j ≤ 1000 ∧ i.natAbs < 18446744073709551616) (ha : PE X a (tE X.K cls W F (.con (.int i)))) (hb : PE X b (tE X.K cls W F (.con (.int j)))) : PE X (.BinOp a .Pow b pos) (tE X.K cls W F (.con (.int (i ^ j.toNat)))) :=
  PEm (pe_op op_pow ha hb) fun σ H Q ⟨B, L, w, s, o, hR, e, k, hx⟩ => by
    rw [evE] at e
    cases e
    refine con_rd hR fun w1 v1 H1 x1 R1 p1 => con_rd R1 fun w2 v2 H2 x2 R2 p2 => ?_
    unfold Rep at p1 p2
    refine ⟨i, j, p1, p2, ⟨h.1, by have := h.2.1; omega, h.2.2⟩, k _ _ rfl w2 _ H2 (x1.trans x2) R2 (res_sh rep_int)⟩
theorem r_neg0 {i : Int} (ha : PE X a (tE X.K cls W F (.con (.int i)))) : PE X (.UnaryOp .USub a pos) (tE X.K cls W F (.con (.int (-i)))) :=
  PEm (pe_un un_neg ha) fun σ H Q ⟨B, L, w, s, o, hR, e, k, hx⟩ => by
    rw [evE] at e
    cases e
    refine con_rd hR fun w1 v1 H1 x1 R1 p1 => ?_
    unfold Rep at p1
    exact ⟨i, p1, k _ _ rfl w1 _ H1 x1 R1 (res_sh rep_int)⟩
end
theorem attrBase_ok {g : Cg} {n : Nat} {e : Expr} {c : Ex} (h : cE g n e = some c) (m : Str) (env : Env) (whole : Sem Value) : attributeBase e m env whole = whole := by
  cases e with
  | Call f as ks p =>
    cases f with
    | Name x p2 =>
      cases as with
      | nil =>
        cases n with
        | zero => cases h
        | succ n => simp [cE, cEn, cE1] at h
      | cons a as => rfl
    | _ => rfl
  | _ => rfl
/-- the parts of a comprehension -/
theorem lc_parts {F : Cf} {cls : Str → Value} {n : Nat} {X : Cx} {g : Cg} {W : WX} (ih : Ih F cls n) (hX : Ctx X g cls W F) (h30 : g.cel ≠ 3) {elt tg iter : Expr} {ifs : List Expr} {scope : Scope} {c : Ex}
    (h : (match cSrc g (cEn n g) tg iter, cOwn g.N scope.names with
      | some src, some own => if blkB g scope own then
          match cTg { g with nm := scope.names } tg, cEn n { g with nm := scope.names } elt, ifs with
          | some t, some ce, [] => if subs t.slots (own.map (·.2)) then some (Ex.lc (own.map (·.2)) (cW (decide (g.cel ≠ 0)) elt ce) t src .none) else none
          | some t, some ce, [c] => match cT (cEn n { g with nm := scope.names }) c with
            | some cc => if subs t.slots (own.map (·.2)) then some (Ex.lc (own.map (·.2)) (cW (decide (g.cel ≠ 0)) elt ce) t src (.some cc)) else none
            | none => none
          | _, _, _ => none
        else none
      | _, _ => none) = some c) :
    ∃ src own t celt ct, c = .lc (own.map (·.2)) celt t src ct ∧ PI X tg iter (tSrc X.K cls W F src) ∧ BlkOk X.N X.env.scope scope own ∧ (∀ i, i ∈ t.slots → i ∈ own.map (·.2)) ∧
      (∀ (s : Shared) (H : Hp) (C : Addr) (cl : List (Str × Addr)) (fp : List Addr), PG (X.blk s H scope (compEnvC scope cl C X.env) fp) tg (gOf X.K t)) ∧
      (∀ (s : Shared) (H : Hp) (C : Addr) (cl : List (Str × Addr)) (fp : List Addr), PTs (X.blk s H scope (compEnvC scope cl C X.env) fp) ifs (tCs X.K cls W0 F ct)) ∧
      (∀ (s : Shared) (H : Hp) (C : Addr) (cl : List (Str × Addr)) (fp : List Addr), PE (X.blk s H scope (compEnvC scope cl C X.env) fp) elt (tE X.K cls W0 F celt)) ∧ ∀ x, foldedSetIterable iter X.env x = pure x := by
  split at h
  · rename_i src own h1 h2
    split at h
    · rename_i hb
      have hk : isFn scope.kind = true := by
        unfold blkB at hb
        simp only [Bool.and_eq_true] at hb
        exact hb.1.1.1
      obtain ⟨q1, q2⟩ := src_ok ih hX h1
      have sl : ∀ {t : Tg} {js : List Nat}, subs t.slots js = true → ∀ i, i ∈ t.slots → i ∈ js := fun {t js} h => subs_ok h
      split at h
      · rename_i t ce h3 h4
        split at h
        · rename_i hs
          cases h
          exact ⟨src, own, t, _, .none, rfl, q1, blkB_ok hX hb, sl hs, fun s H C cl fp => tg_ok (hX.block hk h30 s H C cl fp) h3, fun s H C cl fp => r_ts0, fun s H C cl fp => cW_ok (ih (hX.block hk h30 s H C cl fp) h4).pe, q2⟩
        · cases h
      · rename_i t ce cx h3 h4
        split at h
        · rename_i cc h5
          split at h
          · rename_i hs
            cases h
            exact ⟨src, own, t, _, .some cc, rfl, q1, blkB_ok hX hb, sl hs, fun s H C cl fp => tg_ok (hX.block hk h30 s H C cl fp) h3, fun s H C cl fp => r_ts1 (ct_ok ih (hX.block hk h30 s H C cl fp) h5).1, fun s H C cl fp => cW_ok (ih (hX.block hk h30 s H C cl fp) h4).pe, q2⟩
          · cases h
        · cases h
      · cases h
    · cases h
  · cases h
/-- a comprehension whose element may raise -/
theorem lcx_ok {F : Cf} {cls : Str → Value} {n : Nat} {X : Cx} {g : Cg} {W : WX} (ih : Ih F cls n) (hX : Ctx X g cls W F) (h30 : g.cel = 3) {elt tg iter : Expr} {ifs : List Expr} {scope : Scope} {pos : Pos} {c : Ex} (h : cLcx g (cEn n) elt tg iter ifs scope = some c) :
    PE X (.ListComp elt [⟨tg, iter, ifs, 0⟩] scope pos) (tE X.K cls W F c) := by
  unfold cLcx at h
  split at h
  · rename_i src own h1 h2
    split at h
    · rename_i hb
      have hk : isFn scope.kind = true := by
        unfold blkB at hb
        simp only [Bool.and_eq_true] at hb
        exact hb.1.1.1
      obtain ⟨q1, q2⟩ := src_ok ih hX h1
      obtain ⟨t1, t2⟩ := hX.top h30
      split at h
      · rename_i t ce h3 h4
        split at h
        · rename_i hs
          cases h
          exact r_lcx t1 t2 hX.tk hX.calm hX.nd q1 (blkB_ok hX hb) (subs_ok hs) (fun s H C cl fp => tg_ok (hX.blockX hk s H C cl fp (fun _ _ => False) (Wb := W0) takes0 0 (by decide)) h3)
            (fun σ s H C cl fp xe tk => (ih (hX.blockX hk s H C cl fp xe tk 0 (by decide)) h4).pe) q2
        · cases h
      · cases h
    · cases h
  · cases h
theorem blt_no {x : Str} {f : Blt} (h : bltOf x = some f) : f ≠ .lrng := fun e => by
  subst e
  unfold bltOf at h
  repeat' split at h
  all_goals cases h
theorem nir_ok {F : Cf} {cls : Str → Value} {n : Nat} {X : Cx} {g : Cg} {W : WX} (ih : Ih F cls n) (hX : Ctx X g cls W F) {a b : Expr} {op : CmpOp} {pos : Pos} {c : Ex} (h : cNir g (cEn n g) a op b = some c) : EOk X cls W F (.Compare a [op] [b] pos) c := by
  unfold cNir at h
  split at h
  case isFalse => cases h
  rename_i hg
  obtain ⟨hop, hg⟩ := hg
  have hop' : op = .NotIn := by cases op <;> first | rfl | cases hop
  subst hop'
  have gl := hX.gl _ (isGlob_ok hg)
  have m2 := hX.blt "range" (by decide +kernel)
  split at h
  case h_2 => cases h
  rename_i nn hr
  unfold rngA at hr
  split at hr
  case h_2 => cases hr
  rename_i y p2 as' pos2
  split at hr
  case isFalse => cases hr
  rename_i hy
  subst hy
  cases hr
  split at h
  · rename_i ca cn h1 h2
    cases h
    exact ⟨r_nir gl m2 (ih hX h1).pe (ih hX h2).pe (star_ok h2 [] X.env), fun _ _ => tr_nir gl m2 (ih hX h1).pe (ih hX h2).pe (star_ok h2 [] X.env), fun op vs p q => (nomatch q)⟩
  · cases h
theorem lset_ok {F : Cf} {cls : Str → Value} {n : Nat} {X : Cx} {g : Cg} {W : WX} (ih : Ih F cls n) (hX : Ctx X g cls W F) {x : Str} {a b : Expr} {es : List Expr} {p pos : Pos} {c : Ex} (hr : (if x = "len" ∧ es.isEmpty = true then setA a else none) = some b) (gl : Gl X x)
    (h : (if isGlob g "set" = true then match cEn n g b with
      | some cb => some (Ex.lset cb)
      | none => none
      else none) = some c) : PE X (.Call (.Name x p) (a :: es) [] pos) (tE X.K cls W F c) := by
  split at hr
  case isFalse => cases hr
  rename_i hx
  obtain ⟨rfl, he⟩ := hx
  have he' : es = [] := List.isEmpty_iff.mp he
  subst he'
  unfold setA at hr
  split at hr
  case h_2 => cases hr
  rename_i y p2 b' pos2
  split at hr
  case isFalse => cases hr
  rename_i hy
  subst hy
  cases hr
  have m1 := hX.blt "len" (by decide +kernel)
  have m2 := hX.blt "set" (by decide +kernel)
  split at h
  case isFalse => cases h
  rename_i hg
  have g2 := hX.gl _ (isGlob_ok hg)
  split at h
  · rename_i cb h1
    cases h
    exact r_lset hX.calm gl m1 g2 m2 (ih hX h1).pe (star_ok h1 [] X.env)
  · cases h
/-- list(range(..)) -/
theorem lr_ok {F : Cf} {cls : Str → Value} {n : Nat} {X : Cx} {g : Cg} {W : WX} (ih : Ih F cls n) (hX : Ctx X g cls W F) {x : Str} {a : Expr} {es as : List Expr} {p pos : Pos} {c : Ex} (hr : (if x = "list" ∧ es.isEmpty = true then rngA a else none) = some as) (gl : Gl X x)
    (h : cLr g (cEn n g) as = some c) : PE X (.Call (.Name x p) (a :: es) [] pos) (tE X.K cls W F c) := by
  split at hr
  case isFalse => cases hr
  rename_i hx
  obtain ⟨rfl, he⟩ := hx
  have he' : es = [] := List.isEmpty_iff.mp he
  subst he'
  unfold rngA at hr
  split at hr
  case h_2 => cases hr
  rename_i y p2 as' pos2
  split at hr
  case isFalse => cases hr
  rename_i hy
  subst hy
  cases hr
  have m1 := hX.blt "list" (by decide +kernel)
  have m2 := hX.blt "range" (by decide +kernel)
  unfold cLr at h
  split at h
  case isFalse => cases h
  rename_i hg
  have g2 := hX.gl _ (isGlob_ok hg)
  split at h
  · rename_i b
    split at h
    · rename_i cb h1
      cases h
      exact r_lrng1 hX.calm gl m1 g2 m2 (ih hX h1).pe (star_ok h1 [] X.env)
    · cases h
  · rename_i b d
    split at h
    · rename_i cb cd h1 h2
      cases h
      exact r_lrng2 hX.calm gl m1 g2 m2 (ih hX h1).pe (ih hX h2).pe (star_ok h1 [d] X.env) (star_ok h2 [] X.env) (by rw [star_ok h2]; rfl)
    · cases h
  · rename_i b d e
    split at h
    · rename_i cb cd ce h1 h2 h3
      cases h
      exact r_lrng3 hX.calm gl m1 g2 m2 (ih hX h1).pe (ih hX h2).pe (ih hX h3).pe (star_ok h1 [d, e] X.env) (star_ok h2 [e] X.env) (star_ok h3 [] X.env) (by rw [star_ok h2, star_ok h3]; rfl)
    · cases h
  · cases h
theorem mtOf1_name {m : Str} {k : Mth} (h : mtOf1 m = some k) : (m = "append" ∧ k = .append) ∨ (m = "pop" ∧ k = .popAt) ∨ (m = "extend" ∧ k = .extend) ∨ (m = "index" ∧ k = .index) ∨ (m = "count" ∧ k = .count) ∨ (m = "join" ∧ k = .join) ∨ (m = "split" ∧ k = .split) := by
  unfold mtOf1 at h
  repeat' split at h
  all_goals first
    | (cases h; rename_i e; subst e; simp; done)
    | cases h
/-- a method's call -/
theorem mt_ok {F : Cf} {cls : Str → Value} {n : Nat} {X : Cx} {g : Cg} {W : WX} (ih : Ih F cls n) (hX : Ctx X g cls W F) {a : Expr} {m : Str} {es : List Expr} {apos cpos : Pos} {c : Ex} (hl : (apos.endLine == cpos.line) = true) (h : cMt (cEn n g) a m es = some c) :
    PE X (.Call (.Attribute a m apos) es [] cpos) (tE X.K cls W F c) := by
  obtain ⟨kr, hr⟩ := hX.room
  unfold cMt at h
  split at h
  · cases h
  rename_i ca h1
  have base := fun m => attrBase_ok h1 m X.env (eval a X.env)
  have pa := (ih hX h1).pe
  split at h
  · -- no arguments
    split at h
    · rename_i em
      subst em
      cases h
      exact r_pop pa (base _) hl
    · split at h
      · rename_i em
        subst em
        cases h
        exact r_clear pa (base _) hl
      · cases h
  · -- one
    rename_i b
    split at h
    case h_2 => cases h
    rename_i cb k h2 hm
    cases h
    have pb := r_cons (ih hX h2).pe r_nil (star_ok h2 [] X.env)
    have few : ((backTo cpos (starEach (b :: []) X.env)).all (fun x => !x.1) && (backToKw cpos (keywordEach [] X.env)).all (fun x => x.1.isSome) && decide ((b :: []).length + ([] : List Keyword).length + (if ([] : List Keyword).isEmpty then 0 else 1) < 30)) = true := by
      rw [star_ok h2]
      rfl
    rcases mtOf1_name hm with ⟨rfl, rfl⟩ | ⟨rfl, rfl⟩ | ⟨rfl, rfl⟩ | ⟨rfl, rfl⟩ | ⟨rfl, rfl⟩ | ⟨rfl, rfl⟩ | ⟨rfl, rfl⟩
    · exact r_append pa pb (base _) hl few (star_ok h2 [] X.env) rfl
    · exact r_mut rfl PySem.F.slot_list_pop PySem.F.type_list_pop mt_popAt hT_popAt pa pb (base _) hl few (star_ok h2 [] X.env) rfl
    · exact r_mut rfl PySem.F.slot_list_extend PySem.F.type_list_extend mt_extend hT_extend pa pb (base _) hl few (star_ok h2 [] X.env) rfl
    · exact r_read rfl PySem.F.plainAttrs_list PySem.F.slot_list_index PySem.F.type_list_index mt_index (tyV_lst (.inl rfl)) hT_index pa pb (base _) hl few (star_ok h2 [] X.env) rfl
    · exact r_read rfl PySem.F.plainAttrs_list PySem.F.slot_list_count PySem.F.type_list_count mt_lcount (tyV_lst (.inr rfl)) hT_count pa pb (base _) hl few (star_ok h2 [] X.env) rfl
    · exact r_read rfl PySem.F.plainAttrs_str PySem.F.slot_str_join PySem.F.type_str_join mt_join (tyV_str (.inl rfl)) hT_join pa pb (base _) hl few (star_ok h2 [] X.env) rfl
    · exact r_read rfl PySem.F.plainAttrs_str PySem.F.slot_str_split PySem.F.type_str_split L2.mt_split (tyV_str (.inr (.inl rfl))) hT_split pa pb (base _) hl few (star_ok h2 [] X.env) rfl
  · -- two
    rename_i b d
    split at h
    · cases h
    rename_i cb h2
    split at h
    · rename_i em
      subst em
      split at h
      case h_2 => cases h
      rename_i cd h3
      cases h
      have pb := r_cons (ih hX h2).pe (r_cons (ih hX h3).pe r_nil (star_ok h3 [] X.env)) (star_ok h2 [d] X.env)
      refine r_mut rfl PySem.F.slot_list_insert PySem.F.type_list_insert mt_insert hT_insert pa pb (base _) hl ?_ (star_ok h2 [d] X.env) ?_
      · rw [star_ok h2, star_ok h3]
        rfl
      · rw [star_ok h3]
        rfl
    · split at h
      · rename_i em
        subst em
        split at h
        case h_2 => cases h
        rename_i j jj p
        cases h
        refine r_get (by have := hr.units; omega) pa (ih hX h2).pe pe_int ⟨base _, ?_, hl, ?_⟩
        · rw [star_ok h2]
          rfl
        · rw [star_ok h2]
          rfl
      · cases h
  · cases h
theorem cE_ok {F : Cf} {cls : Str → Value} : ∀ n : Nat, Ih F cls n
  | 0, X, g, W, hX, e, c, h => by cases h
  | n + 1, X, g, W, hX, e, c, h => by
    have ih : Ih F cls n := cE_ok n
    have con : ∀ {e : Expr} {v : V} {d : D}, PE X e (tC v) → (∀ w, Rep X.K w d v) → (∀ op vs p, e ≠ .BoolOp op vs p) → (∀ a ops cs p, e ≠ .Compare a ops cs p) → (∀ a p, e ≠ .UnaryOp .Not a p) → EOk X cls W F e (.con d) := fun h1 h2 a b c => eok (r_con h1 h2) a b c
    obtain ⟨kr, hr⟩ := hX.room
    change cE1 (cEn n) g e = some c at h
    unfold cE1 at h
    split at h
    · cases h; exact con pe_int (fun w => rep_int) (by simp) (by simp) (by simp)
    · cases h; exact con pe_bl (fun w => rep_bl) (by simp) (by simp) (by simp)
    · cases h; exact con pe_non (fun w => rep_non) (by simp) (by simp) (by simp)
    · cases h; exact con pe_str (fun w => rep_str) (by simp) (by simp) (by simp)
    · exact eok (name_ok hX h) (by simp) (by simp) (by simp)
    · -- a binary operator
      refine eok ?_ (by simp) (by simp) (by simp)
      split at h
      · rename_i i j h1 h2 h3
        split at h
        · rename_i hc
          cases h
          have := bop_name h1
          subst this
          exact r_pow0 hc (ih hX h2).pe (ih hX h3).pe
        · cases h
      · rename_i o ca cb _ h1 h2 h3
        cases h
        have := bop_name h1
        subst this
        exact r_bin (ih hX h2).pe (ih hX h3).pe
      · cases h
    · -- -a
      refine eok ?_ (by simp) (by simp) (by simp)
      split at h
      · rename_i i h1
        cases h
        exact r_neg0 (ih hX h1).pe
      · rename_i ca _ h1
        cases h
        exact r_neg (ih hX h1).pe
      · cases h
    · -- not a
      split at h
      · rename_i ca h1
        cases h
        obtain ⟨h2, h3⟩ := ct_ok ih hX h1
        exact ⟨r_nt (ih hX h3).pe, fun _ _ => tr_nt h2, fun op vs p q => (nomatch q)⟩
      · cases h
    · -- one of and, or
      rename_i op a pos
      obtain ⟨h2, h3⟩ := ct_ok ih hX h
      have hw : PW X (.BoolOp op [a] pos) (tTr X.K cls W F c) := by
        cases op with
        | And => exact pw_and1 h2
        | Or => exact pw_or1 h2
      exact ⟨pe_one (ih hX h3).pe, fun _ _ => hw.pt, fun op' vs p q _ => by cases q; exact hw⟩
    · -- and
      split at h
      · rename_i ca cb h1 h2
        split at h
        · cases h
        · rename_i ho
          cases h
          obtain ⟨h3, h4⟩ := ct_ok ih hX h1
          have hb := ih hX h2
          have hw := tr_an h3 (hb.pw _ _ _ rfl (by simpa using ho))
          exact ⟨r_an (ih hX h4).pe hb.pe, fun _ _ => hw.pt, fun op' vs p q _ => by cases q; exact hw⟩
      · cases h
    · -- or
      split at h
      · rename_i ca cb h1 h2
        split at h
        · cases h
        · rename_i ho
          obtain ⟨h3, h4⟩ := ct_ok ih hX h1
          have hb := ih hX h2
          split at h
          · cases h
            exact ⟨r_orv (ih hX h4).pe hb.pe, fun _ hf => (nomatch hf), fun op' vs p q hf => (nomatch hf)⟩
          · cases h
            have hw := tr_or h3 (hb.pw _ _ _ rfl (by simpa using ho))
            exact ⟨r_or (ih hX h4).pe hb.pe, fun _ _ => hw.pt, fun op' vs p q _ => by cases q; exact hw⟩
      · cases h
    · -- a comparison
      split at h
      · rename_i c h0
        cases h
        exact nir_ok ih hX h0
      ·
        split at h
        · rename_i o ca cb h1 h2 h3
          cases h
          have := cop_name h1
          subst this
          exact ⟨r_cmp hr ((notSet h3).1 _) (ih hX h2).pe (ih hX h3).pe, fun _ _ => tr_cmp hr ((notSet h3).1 _) (ih hX h2).pe (ih hX h3).pe, fun op vs p q => (nomatch q)⟩
        · cases h
    · -- a chain
      split at h
      · rename_i o o' ca cb cc h1 h2 h3 h4 h5
        cases h
        have := cop_name h1
        subst this
        have := cop_name h2
        subst this
        have hm : ∀ {b c : Expr} {cb cc : Ex}, cE g n c = some cc → lastMarks [copO o, copO o'] [b, c] = false := fun {b c cb cc} hc => by
          show behindInMarks (copO o') c = false
          exact (notSet hc).1 _
        exact ⟨r_ch hr (hm (cb := cb) h5) (ih hX h3).pe (ih hX h4).pe (ih hX h5).pe, fun _ _ => tr_ch hr (hm (cb := cb) h5) (ih hX h3).pe (ih hX h4).pe (ih hX h5).pe, fun op vs p q => (nomatch q)⟩
      · cases h
    · -- a chain of three
      split at h
      · rename_i o o' o'' ca cb cc cd h1 h2 h3 h4 h5 h6 h7
        cases h
        have := cop_name h1
        subst this
        have := cop_name h2
        subst this
        have := cop_name h3
        subst this
        have hm : ∀ {b c d : Expr} {cd : Ex}, cE g n d = some cd → lastMarks [copO o, copO o', copO o''] [b, c, d] = false := fun {b c d cd} hd => by
          show behindInMarks (copO o'') d = false
          exact (notSet hd).1 _
        exact ⟨r_ch3 hr (hm h7) (ih hX h4).pe (ih hX h5).pe (ih hX h6).pe (ih hX h7).pe, fun _ _ => tr_ch3 hr (hm h7) (ih hX h4).pe (ih hX h5).pe (ih hX h6).pe (ih hX h7).pe, fun op vs p q => (nomatch q)⟩
      · cases h
    · -- a if t else b
      refine eok ?_ (by simp) (by simp) (by simp)
      split at h
      · rename_i ct ca cb h1 h2 h3
        cases h
        exact r_ife (ct_ok ih hX h1).1 (ih hX h2).pe (ih hX h3).pe
      · cases h
    · -- a tuple
      refine eok ?_ (by simp) (by simp) (by simp)
      split at h
      · rename_i cs h1
        cases h
        exact r_tup (es_ok ih hX h1)
      · cases h
    · -- a list
      refine eok ?_ (by simp) (by simp) (by simp)
      split at h
      · rename_i cs h1
        cases h
        split
        · exact r_cel (esW_ok ih hX h1)
        · exact r_lst (esW_ok ih hX h1)
      · cases h
    · -- from behind
      refine eok ?_ (by simp) (by simp) (by simp)
      split at h
      · rename_i ca h1
        cases h
        exact r_rev (ih hX h1).pe
      · cases h
    · -- a slice
      refine eok ?_ (by simp) (by simp) (by simp)
      split at h
      · rename_i ca cl ch h1 h2 h3
        cases h
        exact r_sl (ih hX h1).pe (eo_ok ih hX h2) (eo_ok ih hX h3)
      · cases h
    · -- an item
      refine eok ?_ (by simp) (by simp) (by simp)
      split at h
      · rename_i ca cb h1 h2
        cases h
        exact r_ix (ih hX h1).pe (ih hX h2).pe (plainIx h2)
      · cases h
    · -- a call
      refine eok ?_ (by simp) (by simp) (by simp)
      have ces : ∀ {a : Expr} {es : List Expr} {cs : Exs}, cEs (cE g n) (a :: es) = some cs → starEach (a :: es) X.env = (false, eval a X.env) :: starEach es X.env ∧ ∀ pos, (backTo pos (starEach es X.env)).any (·.1) = false := fun {a es cs} h => by
        unfold cEs at h
        split at h
        · rename_i c cs' h1 h2
          exact ⟨star_ok h1 es X.env, fun pos => noStars h2⟩
        · cases h
      split at h
      · rename_i hg
        have gl := hX.gl _ (isGlob_ok hg)
        split at h
        · rename_i sh hf
          split at h
          · rename_i cs h1
            cases h
            obtain ⟨s1, s2⟩ := ces h1
            exact r_call (hX.fn _ _ hf) gl hX.tk (es_ok ih hX h1) s1 (s2 _)
          · cases h
        · split at h
          · rename_i ex
            subst ex
            have hm := hX.blt "isinstance" (by decide +kernel)
            split at h
            · rename_i ca ts kk p2 h1
              split at h
              · rename_i tys h2
                split at h
                · rename_i h8
                  cases h
                  obtain ⟨ps, hl, rfl, ht⟩ := tys_ok hX h2
                  exact r_isiT tys ps hl h8 gl hm ht (ih hX h1).pe (star_ok h1 _ X.env)
                · cases h
              · split at h
                · rename_i tab h2
                  cases h
                  obtain ⟨cns, _, k2, k3, k4⟩ := isx_ok hX h2
                  exact r_isxT gl hm k3 (by rw [List.length_map]; exact k2) (clsv_all cns) k4 (ih hX h1).pe (star_ok h1 _ X.env)
                · cases h
            · rename_i ca e' _ h1
              split at h
              · rename_i t h2
                cases h
                obtain ⟨p2, rfl, g1, g2⟩ := ty_ok hX h2
                exact r_isi1 t gl hm g1 g2 (ih hX h1).pe (star_ok h1 _ X.env)
              · split at h
                · rename_i tab h2
                  cases h
                  obtain ⟨x', p', rfl, k1, k2⟩ := isx1_pe hX h2
                  exact r_isx1 gl hm k1 clsv_rel k2 (ih hX h1).pe (star_ok h1 _ X.env) rfl
                · cases h
            · cases h
          · split at h
            · rename_i as hr0
              exact lr_ok ih hX hr0 gl h
            · split at h
              · rename_i b hr0
                exact lset_ok ih hX hr0 gl h
              ·
                  split at h
                  · rename_i f cs h1 h2
                    cases h
                    obtain ⟨e1, e2⟩ := blt_name h1
                    subst e1
                    obtain ⟨s1, s2⟩ := ces h2
                    exact r_blt f (blt_no h1) (by have := hr.units; omega) hX.calm gl (hX.blt _ e2) (es_ok ih hX h2) s1 (s2 _)
                  · cases h
      · split at h
        · rename_i i cs h1 h2
          cases h
          obtain ⟨s1, s2⟩ := ces h2
          obtain ⟨v1, v2⟩ := hX.slot h1
          obtain ⟨d1, d2⟩ := hX.dbgAt v1
          exact r_callV hX.fv hX.tk v1 v2 d1 d2 (es_ok ih hX h2) s1 (s2 _)
        · cases h
    · -- a method
      refine eok ?_ (by simp) (by simp) (by simp)
      split at h
      · rename_i hl
        exact mt_ok ih hX hl h
      · cases h
    · cases h
      exact eok r_dnew (by simp) (by simp) (by simp)
    · -- a comprehension
      refine eok ?_ (by simp) (by simp) (by simp)
      split at h
      · rename_i h30
        exact lcx_ok ih hX h30 h
      rename_i h30
      obtain ⟨src, own, t, celt, ct, rfl, h1, h2, h3, h4, h5, h6, h7⟩ := lc_parts ih hX h30 h
      exact r_lc hX.calm hX.nd h1 h2 h3 h4 h5 h6 h7
    · cases h
end PV
set_option maxHeartbeats 4000000
/-! Statements, defs. -/
namespace PV
open PySem PySem.Spec PyProof.Rows L2
section
variable {X : Cx} {g : Cg} {cls : Str → Value} {W : WX} {F : Cf} {pos : Pos}
theorem q_raise {x m : Str} {j : Nat} {p p2 pos' : Pos} (hX : Ctx X g cls W F) (hx : x ∈ g.exc.names) (hg : Gl X x) : PS X (.Raise (some (.Call (.Name x p) [.Constant (.str m) j p2] [] pos')) none pos) (tSt X.K cls W F (.rai x)) := by
  obtain ⟨hd, C, h1, h2, h3, h4, h5, h6⟩ := hX.exc x hx
  refine PSm (ps_raise hX.calm hX.tk (pmk_own PySem.F.excBase_ValueError h6 h1 h3 (raises_own h4 h5) hg hd)) fun D σ H ⟨B, L, w, s, f, hR, e, k⟩ => ?_
  rw [evS] at e
  cases e
  have := k w σ H Ext.refl hR
  rw [h2] at this
  exact this
theorem sw_none {n : Nat} {e : Expr} {c : Ex} (h : cE g n e = some c) (hl : isLc e = false) (t : Option Expr) (l : Nat) (env : Env) : swapsWith e t l env = pure false := by
  cases e with
  | ListComp => cases hl
  | SetComp =>
    cases n with
    | zero => cases h
    | succ n => simp [cE, cEn, cE1] at h
  | DictComp =>
    cases n with
    | zero => cases h
    | succ n => simp [cE, cEn, cE1] at h
  | _ => rfl
theorem sw_other {n : Nat} {e : Expr} {c : Ex} (h : cE g n e = some c) (t : Expr) (ht : ∀ x p, t ≠ .Name x p) (l : Nat) (env : Env) : swapsWith e (some t) l env = pure false := by
  cases e with
  | SetComp =>
    cases n with
    | zero => cases h
    | succ n => simp [cE, cEn, cE1] at h
  | DictComp =>
    cases n with
    | zero => cases h
    | succ n => simp [cE, cEn, cE1] at h
  | ListComp elt gs sc p =>
    cases t with
    | Name x p => exact absurd rfl (ht x p)
    | _ => rfl
  | _ => rfl
/-- a comprehension that is stored by its name: within its frame, or as any value -/
theorem sw_lc {elt : Expr} {gs : List Comprehension} {scope : Scope} {p py : Pos} {y : Str} {l : Nat} {env : Env} (hk : env.scope.kind = .function) :
    swapsWith (.ListComp elt gs scope p) (some (.Name y py)) l env = pure (env.scope.names.lookup y == some .local && py.line == p.line && !(scope.names.any fun (n, k) => n == y && (k == .local || k == .cell))) := by
  have hb : env.blockKind = .function := by unfold Env.blockKind; rw [hk]; rfl
  unfold swapsWith
  simp only [hb, Expr.pos]
  rfl
theorem swp_tup {ts : List Expr} {k : Nat} {p : Pos} {e : Expr} (h : ¬ isTup e = true) (env : Env) : swappedStores [.Tuple ts k p] e env = pure none := by
  cases e with
  | Tuple => exact absurd rfl h
  | _ => rfl
theorem lc_inv {rec : Cg → Expr → Option Ex} {elt : Expr} {gs : List Comprehension} {scope : Scope} {p : Pos} {c : Ex} (h : cE1 rec g (.ListComp elt gs scope p) = some c) : ∃ tg iter ifs, gs = [⟨tg, iter, ifs, 0⟩] := by
  match gs, h with
  | [], h => cases (show (none : Option Ex) = some c from h)
  | [⟨tg, iter, ifs, .ofNat 0⟩], h => exact ⟨tg, iter, ifs, rfl⟩
  | [⟨tg, iter, ifs, .ofNat (a + 1)⟩], h => cases (show (none : Option Ex) = some c from h)
  | [⟨tg, iter, ifs, .negSucc a⟩], h => cases (show (none : Option Ex) = some c from h)
  | ⟨_, _, _, .ofNat 0⟩ :: _ :: _, h => cases (show (none : Option Ex) = some c from h)
  | ⟨_, _, _, .ofNat (a + 1)⟩ :: _ :: _, h => cases (show (none : Option Ex) = some c from h)
  | ⟨_, _, _, .negSucc a⟩ :: _ :: _, h => cases (show (none : Option Ex) = some c from h)
theorem sws_tup {n : Nat} {e : Expr} {c : Ex} (h : cE g n e = some c) {ts : List Expr} {k : Nat} {p : Pos} (l : Nat) (env : Env) : swapsWithSole [.Tuple ts k p] e l env = pure false := sw_other h (.Tuple ts k p) (by simp) l env
theorem sws_sub {n : Nat} {e : Expr} {c : Ex} (h : cE g n e = some c) {o i : Expr} {p : Pos} (l : Nat) (env : Env) : swapsWithSole [.Subscript o i p] e l env = pure false := sw_other h (.Subscript o i p) (by simp) l env
theorem asg_sub {n : Nat} {o i : Expr} {c : Ex} (h : cE g n i = some c) (p : Pos) (env : Env) (v : Value) : assign (.Subscript o i p) env v = (do
      let ov ← holding [v] (eval o env)
      let iv ← holding [v, ov] (eval i env)
      standAt p
      holding [v, ov, iv] (setItem ov iv v)
      release [v, ov, iv] []) := by
  cases i with
  | Slice a b s p =>
    cases n with
    | zero => cases h
    | succ n => simp [cE, cEn, cE1] at h
  | _ => rfl
theorem aug_sub {n : Nat} {i : Expr} {c : Ex} (h : cE g n i = some c) (ov iv new : Value) : augStore i ov iv new = (do holding [new, ov, iv] (setItem ov iv new); release [new, ov, iv] []; pure .next) := by
  cases i with
  | Slice a b s p =>
    cases n with
    | zero => cases h
    | succ n => simp [cE, cEn, cE1] at h
  | _ => rfl
theorem ss_ok (rec : Stmt → Option St) (h : ∀ {st : Stmt} {c : St}, rec st = some c → PS X st (tSt X.K cls W F c)) : ∀ {ss : List Stmt} {cs : Sts}, cSs rec ss = some cs → PSs X ss (tSts X.K cls W F cs)
  | [], cs, e => by cases e; exact q_nil
  | st :: ss, cs, e => by
    unfold cSs at e
    split at e
    · rename_i c cs' h1 h2
      cases e
      exact q_cons (h h1) (ss_ok rec h h2)
    · cases e
theorem cFl_ok {Da a : Addr} {oe : Obj} {pn : List (Addr × Obj)} {fl : List (Str × Bool)} {x : Nat} {en : Str} (hX : Ctx X g cls W F) (C : ExcC X.K Da) (hz : Zc (.ref Da) none oe) (hf : ∃ vs, oe.data = .fields vs)
    (hfl : ∀ c b, fl.lookup c = some b → (c == ("__debug__" : Str)) = false ∧ ((∃ E, X.mg c = some (.ref E) ∧ PySem.W.kitOne X.K (.ref Da) (.ref E) = some b) ∨ (c = "ValueError" ∧ X.mg c = none ∧ PySem.W.kitOne X.K (.ref Da) (.type "ValueError") = some b)))
    (hen : g.nm.lookup en = some .local) (hx : ixOf en g.N = some x) : ∀ (n : Nat) {e : Expr} {b : Bool}, sizeOf e < n → cFl g en fl e = some b → PE (X.suite a ((a, oe) :: pn)) e (tFl x a b)
  | 0, e, b, hn, h => by omega
  | n + 1, e, b, hn, h => by
    unfold cFl at h
    split at h
    · split at h
      · rename_i hfe
        obtain ⟨hf1, hf2⟩ := hfe
        subst hf1
        have hf2 := hf2.symm
        subst hf2
        split at h
        · rename_i hg
          rw [Bool.and_eq_true] at hg
          have hs : cSlot g en = some x := by
            unfold cSlot
            rw [hen]
            exact hx
          obtain ⟨s1, s2⟩ := hX.slot hs
          obtain ⟨d1, d2⟩ := hX.dbgAt s1
          obtain ⟨cd, hc⟩ := hfl _ _ h
          have hgi := hX.gl _ (isGlob_ok hg.1)
          have hgc := hX.gl _ (isGlob_ok hg.2)
          have hmi := hX.blt "isinstance" (by decide +kernel)
          rcases hc with ⟨E, hm, hk⟩ | ⟨rfl, hm, hk⟩
          · exact u_isE C hz hf hgi hmi s1 s2 d1 d2 (c := .ref E) (pe_glob hgc hm rfl cd) (fun u hu => hu) hk
          · exact u_isE C hz hf hgi hmi s1 s2 d1 d2 (c := .ty "ValueError") (pe_bltn hgc hm (by decide +kernel) rfl (by decide +kernel) (by decide +kernel)) (fun u hu => hu) hk
        · cases h
      · cases h
    · split at h
      · rename_i b' h1
        cases h
        exact u_not (cFl_ok hX C hz hf hfl hen hx n (by simp at hn; omega) h1)
      · cases h
    · cases h
theorem cFls_ok {Da a : Addr} {oe : Obj} {pn : List (Addr × Obj)} {fl : List (Str × Bool)} {x : Nat} {en : Str} (hX : Ctx X g cls W F) (C : ExcC X.K Da) (hz : Zc (.ref Da) none oe) (hf : ∃ vs, oe.data = .fields vs)
    (hfl : ∀ c b, fl.lookup c = some b → (c == ("__debug__" : Str)) = false ∧ ((∃ E, X.mg c = some (.ref E) ∧ PySem.W.kitOne X.K (.ref Da) (.ref E) = some b) ∨ (c = "ValueError" ∧ X.mg c = none ∧ PySem.W.kitOne X.K (.ref Da) (.type "ValueError") = some b)))
    (hen : g.nm.lookup en = some .local) (hx : ixOf en g.N = some x) : ∀ {es : List Expr} {bs : List Bool}, cFls g en fl es = some bs → PA (X.suite a ((a, oe) :: pn)) es (tFls x a bs)
  | [], bs, h => by cases h; exact u_nil
  | e :: es, bs, h => by
    unfold cFls at h
    split at h
    · rename_i b bs' h1 h2
      cases h
      refine u_cons (cFl_ok hX C hz hf hfl hen hx (sizeOf e + 1) (by omega) h1) (cFls_ok hX C hz hf hfl hen hx h2) ?_
      cases e <;> first | rfl | (unfold cFl at h1; cases h1)
    · cases h
theorem cU_ok {Da a : Addr} {oe : Obj} {pn : List (Addr × Obj)} {fl : List (Str × Bool)} {x : Nat} {en : Str} (hX : Ctx X g cls W F) (C : ExcC X.K Da) (hz : Zc (.ref Da) none oe) (hf : ∃ vs, oe.data = .fields vs)
    (hfl : ∀ c b, fl.lookup c = some b → (c == ("__debug__" : Str)) = false ∧ ((∃ E, X.mg c = some (.ref E) ∧ PySem.W.kitOne X.K (.ref Da) (.ref E) = some b) ∨ (c = "ValueError" ∧ X.mg c = none ∧ PySem.W.kitOne X.K (.ref Da) (.type "ValueError") = some b)))
    (hen : g.nm.lookup en = some .local) (hx : ixOf en g.N = some x) {st : Stmt} {u : Us} (h : cU g x en fl st = some u) : PS (X.suite a ((a, oe) :: pn)) st (tU1 X.K x a u) := by
  unfold cU at h
  split at h
  · split at h
    · rename_i i bs h1 h2
      split at h
      · rename_i hc
        cases h
        obtain ⟨s1, s2, s3⟩ := hX.store h1
        exact u_setL hX.nd s1 s2 s3 hc.1 hc.2 (cFls_ok hX C hz hf hfl hen hx h2) rfl
      · cases h
    · cases h
  · split at h
    · rename_i hyz
      subst hyz
      split at h
      · rename_i i j bs h1 h3 h2
        split at h
        · rename_i hc
          cases h
          obtain ⟨s1, s2, s3⟩ := hX.store h1
          obtain ⟨t1, t2⟩ := hX.slot h3
          obtain ⟨d1, d2⟩ := hX.dbgAt s1
          exact u_addL hX.nd s1 s2 s3 t2 d1 d2 hc.1 hc.2 (cFls_ok hX C hz hf hfl hen hx h2) rfl
        · cases h
      · cases h
    · cases h
  · rename_i y p0 m0 apos f cpos p1
    split at h
    · rename_i hm
      obtain ⟨hm1, hm2⟩ := hm
      subst hm1
      split at h
      · rename_i i b h1 h2
        cases h
        obtain ⟨s1, s2⟩ := hX.slot h1
        obtain ⟨d1, d2⟩ := hX.dbgAt s1
        have hst : ∀ env, starEach [f] env = [(false, eval f env)] := fun env => by
          cases f <;> first | rfl | (unfold cFl at h2; cases h2)
        refine u_app s1 s2 d1 d2 (cFl_ok hX C hz hf hfl hen hx (sizeOf f + 1) (by omega) h2) rfl hm2 ?_ (hst _) rfl rfl
        rw [hst]
        rfl
      · cases h
    · cases h
  · cases h
theorem cUs_ok {Da a : Addr} {oe : Obj} {pn : List (Addr × Obj)} {fl : List (Str × Bool)} {x : Nat} {en : Str} (hX : Ctx X g cls W F) (C : ExcC X.K Da) (hz : Zc (.ref Da) none oe) (hf : ∃ vs, oe.data = .fields vs)
    (hfl : ∀ c b, fl.lookup c = some b → (c == ("__debug__" : Str)) = false ∧ ((∃ E, X.mg c = some (.ref E) ∧ PySem.W.kitOne X.K (.ref Da) (.ref E) = some b) ∨ (c = "ValueError" ∧ X.mg c = none ∧ PySem.W.kitOne X.K (.ref Da) (.type "ValueError") = some b)))
    (hen : g.nm.lookup en = some .local) (hx : ixOf en g.N = some x) : ∀ {ss : List Stmt} {us : List Us}, cUs g x en fl ss = some us → PSs (X.suite a ((a, oe) :: pn)) ss (tU X.K x a us)
  | [], us, h => by cases h; exact u_done rfl
  | st :: ss, us, h => by
    unfold cUs at h
    split at h
    · rename_i u us' h1 h2
      cases h
      exact u_seq (cU_ok hX C hz hf hfl hen hx h1) (cUs_ok hX C hz hf hfl hen hx h2)
    · cases h
theorem tri_has {n : Str} : ∀ {l : List (Str × List (Str × Bool))}, (l.map (·.1)).contains n = true → ∃ fl, l.lookup n = some fl
  | [], h => by cases h
  | (m, fl) :: r, h => by
    rw [List.lookup_cons]
    cases hn : n == m with
    | true => exact ⟨fl, rfl⟩
    | false =>
      rw [List.map_cons, List.contains_cons, hn, Bool.false_or] at h
      exact tri_has h
theorem cTab_ok {x : Nat} {en n : Str} {ss : List Stmt} : ∀ {l : List (Str × List (Str × Bool))} {h : List (Str × List Us)} {us : List Us}, cTab g x en ss l = some h → h.lookup n = some us → ∃ fl, l.lookup n = some fl ∧ cUs g x en fl ss = some us
  | [], h, us, e, hl => by cases e; cases hl
  | (m, fl) :: r, h, us, e, hl => by
    unfold cTab at e
    split at e
    · rename_i us' h' h1 h2
      cases e
      rw [List.lookup_cons] at hl
      rw [List.lookup_cons]
      cases hn : n == m with
      | true =>
        rw [hn] at hl
        cases hl
        exact ⟨fl, rfl, h1⟩
      | false =>
        rw [hn] at hl
        exact cTab_ok h2 hl
    · cases e
theorem cS_ok {m : Nat} : ∀ (n : Nat) {X : Cx} {W : WX} (hX : Ctx X g cls W F) (po : PassesOwn (model X.prog X.w) X.A X.env X.xe) (hst : X.stack = X.env :: X.outer) (hfr : X.env.frame = some X.env.locals) (hx0 : X.ex = []) {st : Stmt} {c : St}, cS g m n st = some c → PS X st (tSt X.K cls W F c)
  | 0, X, W, hX, po, hst, hfr, hx0, st, c, h => by cases h
  | n + 1, X, W, hX, po, hst, hfr, hx0, st, c, h => by
    have ih : Ih F cls m := cE_ok m
    have ihs : ∀ {ss : List Stmt} {cs : Sts}, cSs (cS g m n) ss = some cs → PSs X ss (tSts X.K cls W F cs) := fun {ss cs} h => ss_ok (cS g m n) (fun h => cS_ok n hX po hst hfr hx0 h) h
    have hu1 : X.A.units + 1 < cLine := by
      obtain ⟨kr, hr⟩ := hX.room
      have := hr.units
      omega
    change cS1 (cS g m n) g m st = some c at h
    unfold cS1 at h
    split at h
    · -- x = e
      split at h
      · cases h
      rename_i h30
      split at h
      · rename_i i ce h1 h2
        cases h
        obtain ⟨s1, s2, s3⟩ := hX.store h1
        rename_i x p1 e pos0 _ _
        cases hl : isLc e with
        | false => exact q_set hX.nd s1 s2 s3 (ih hX h2).pe (sw_none h2 hl _ _ _)
        | true =>
          cases e with
          | ListComp elt gs scope p =>
            have hsw := sw_lc (elt := elt) (gs := gs) (scope := scope) (p := p) (py := p1) (y := x) (l := pos0.line) hX.kind
            cases hb : (X.env.scope.names.lookup x == some .local && p1.line == p.line && !(scope.names.any fun (n, k) => n == x && (k == .local || k == .cell))) with
            | false =>
              rw [hb] at hsw
              exact q_set hX.nd s1 s2 s3 (ih hX h2).pe hsw
            | true =>
              rw [hb] at hsw
              cases m with
              | zero => cases h2
              | succ m =>
                have ih' : Ih F cls m := cE_ok m
                change cE1 (cEn m) g _ = some ce at h2
                obtain ⟨tg, iter, ifs, rfl⟩ := lc_inv h2
                have h31 : g.cel ≠ 3 := fun z => h30 ⟨z, rfl⟩
                have h2' : (if g.cel = 3 then cLcx g (cEn m) elt tg iter ifs scope else _) = some ce := h2
                rw [if_neg h31] at h2'
                obtain ⟨src, own, t, celt, ct, rfl, g1, g2, g3, g4, g5, g6, g7⟩ := lc_parts ih' hX h31 h2'
                simp only [Bool.and_eq_true, beq_iff_eq] at hb
                exact q_setLc hX.calm hX.nd s1 hb.1.1 hsw g1 g2 g3 g4 g5 g6 g7
          | _ => cases hl
      · cases h
    · -- a, b = e
      split at h
      · cases h
      · rename_i ht
        split at h
        · rename_i is ce h1 h2
          cases h
          obtain ⟨g1, g2, g3⟩ := names_ok hX h1
          exact q_setT hX.calm (ih hX h2).pe g1 g2 g3 (sws_tup h2 _ _) (swp_tup ht _)
        · cases h
    · -- o[lo:hi] = e
      split at h
      · rename_i co cl ch ce h1 h2 h3 h4
        cases h
        exact q_setS (ih hX h4).pe (ih hX h1).pe (eo_ok ih hX h2) (eo_ok ih hX h3) (sws_sub h4 _ _) rfl
      · cases h
    · -- o[i] = e
      split at h
      · rename_i co ci ce h1 h2 h3
        cases h
        exact q_setI hu1 (ih hX h3).pe (ih hX h1).pe (ih hX h2).pe (asg_sub h2 _ _) (sws_sub h3 _ _) rfl
      · cases h
    · -- x op= e
      split at h
      · rename_i i ce h1 h3
        cases h
        obtain ⟨s1, s2, s3⟩ := hX.store h1
        exact q_aug (.inl ⟨rfl, rfl⟩) hX.nd s1 s2 s3 (ih hX h3).pe
      · rename_i i ce h1 h3
        cases h
        obtain ⟨s1, s2, s3⟩ := hX.store h1
        exact q_aug (.inr ⟨rfl, rfl⟩) hX.nd s1 s2 s3 (ih hX h3).pe
      · cases h
    · -- d[k] op= j
      split at h
      · rename_i i ci h1 h2
        cases h
        obtain ⟨v1, v2⟩ := hX.slot h1
        obtain ⟨d1, d2⟩ := hX.dbgAt v1
        exact q_augI (.inl ⟨rfl, rfl⟩) hu1 v1 v2 d1 d2 (ih hX h2).pe pe_int (aug_sub h2)
      · rename_i i ci h1 h2
        cases h
        obtain ⟨v1, v2⟩ := hX.slot h1
        obtain ⟨d1, d2⟩ := hX.dbgAt v1
        exact q_augI (.inr ⟨rfl, rfl⟩) hu1 v1 v2 d1 d2 (ih hX h2).pe pe_int (aug_sub h2)
      · cases h
    · -- e
      split at h
      · cases h
      · rename_i hl
        split at h
        · rename_i ce h1
          cases h
          exact q_ex (ih hX h1).pe (sw_none h1 (by simpa using hl) _ _ _)
        · cases h
    · split at h
      · rename_i ce h1
        cases h
        exact q_ret (ih hX h1).pe
      · cases h
    · cases h; exact q_retN
    · split at h
      · rename_i cc ca cb h1 h2 h3
        cases h
        exact q_if (ct_ok ih hX h1).1 (ihs h2) (ihs h3)
      · cases h
    · split at h
      · rename_i cc ca h1 h2
        cases h
        exact q_while po (ct_ok ih hX h1).1 (ihs h2)
      · cases h
    · split at h
      · rename_i src t ca h1 h2 h3
        cases h
        obtain ⟨g1, g2⟩ := src_ok ih hX h1
        exact q_for po hX.calm g1 (tg_ok hX h2) (ihs h3) g2
      · cases h
    · split at h
      · rename_i hb
        cases h
        rw [Bool.and_eq_true] at hb
        exact q_raise hX (by simpa using hb.2) (hX.gl _ (isGlob_ok hb.1))
      · cases h
    · cases h; exact q_pass
    · cases h; exact q_brk
    · cases h; exact q_cnt
    · unfold cTry at h
      split at h
      · rename_i hc
        obtain ⟨c1, c2, c3, c4⟩ := hc
        subst c1
        split at h
        · rename_i x cb hx hb
          split at h
          · rename_i tb ht
            cases h
            have hN : X.N[x]? = some _ := (hX.slot (show cSlot g _ = some x by unfold cSlot; rw [c3]; exact hx)).1
            obtain ⟨n0, fl0, hl0⟩ : ∃ n0 fl0, g.exc.tri.lookup n0 = some fl0 := by
              cases ht0 : g.exc.tri with
              | nil => rw [ht0] at c4; cases c4
              | cons p r => exact ⟨p.1, p.2, by rw [List.lookup_cons, beq_self_eq_true]⟩
            obtain ⟨D0, C0, _, _, hm0, hd0, _, _⟩ := hX.tri n0 fl0 hl0
            refine q_try hst hfr hX.nd hN (hX.lcl _ c3) (c := .ref C0) ⟨hX.gl _ (isGlob_ok c2), hd0, .inl hm0⟩ hX.tk (fun W' pn xe tk po' => ss_ok (cS g m n) (fun h => cS_ok n (X := X.tr pn xe) (W := W') { hX with tk := tk, fn := fun f b h => let ⟨d, a, fd, ps, j, h1, h2, h3, h4, h5⟩ := hX.fn f b h; ⟨d, a, fd, ps, j, h1, h2, h3, h4, h5⟩, fv := fun f h => let ⟨⟨d, a, fd, ps, j, h1, h2, h3, h4, h5⟩, q⟩ := hX.fv f h; ⟨⟨d, a, fd, ps, j, h1, h2, h3, h4, h5⟩, q⟩ } po' hst hfr hx0 h) hb) (fun n' us hl a oe pn hz hf => ?_) (fun n' us hl => ?_)
            · obtain ⟨fl, hfl, hus⟩ := cTab_ok ht hl
              obtain ⟨Da, C1, e1, hC, hm1, _, _, _, hk⟩ := hX.tri n' fl hfl
              rw [e1] at hz
              exact cUs_ok hX hC hz hf hk c3 hx hus
            · obtain ⟨fl, hfl, hus⟩ := cTab_ok ht hl
              obtain ⟨Da, C1, e1, hC, hm1, _, hx1, _, hk⟩ := hX.tri n' fl hfl
              rw [hm0] at hm1
              cases hm1
              rw [e1]
              exact hx1
          · unfold cKeep at h
            split at h
            · rename_i y p1 z p2 sp hss
              obtain ⟨rfl, rfl⟩ := List.cons.inj hss
              split at h
              · rename_i hz
                split at h
                · rename_i i hi
                  split at h
                  · rename_i hix
                    cases h
                    have hsl : cSlot g z = some x := by
                      unfold cSlot
                      rw [hz, c3]
                      exact hx
                    obtain ⟨hN, hvs⟩ := hX.slot hsl
                    subst hz
                    obtain ⟨db1, db2⟩ := hX.dbgAt hN
                    obtain ⟨y1, y2, y3⟩ := hX.store hi
                    obtain ⟨n0, fl0, hl0⟩ : ∃ n0 fl0, g.exc.tri.lookup n0 = some fl0 := by
                      cases ht0 : g.exc.tri with
                      | nil => rw [ht0] at c4; cases c4
                      | cons p r => exact ⟨p.1, p.2, by rw [List.lookup_cons, beq_self_eq_true]⟩
                    obtain ⟨D0, C0, _, _, hm0, hd0, _, _⟩ := hX.tri n0 fl0 hl0
                    refine q_tryb hx0 hst hfr hX.nd hN (hX.lcl _ c3) (c := .ref C0) ⟨hX.gl _ (isGlob_ok c2), hd0, .inl hm0⟩ (fun W' pn xe tk po' => ss_ok (cS g m n) (fun h => cS_ok n (X := X.tr pn xe) (W := W') { hX with tk := tk, fn := fun f b h => let ⟨d, a, fd, ps, j, h1, h2, h3, h4, h5⟩ := hX.fn f b h; ⟨d, a, fd, ps, j, h1, h2, h3, h4, h5⟩, fv := fun f h => let ⟨⟨d, a, fd, ps, j, h1, h2, h3, h4, h5⟩, q⟩ := hX.fv f h; ⟨⟨d, a, fd, ps, j, h1, h2, h3, h4, h5⟩, q⟩ } po' hst hfr hx0 h) hb) y1 y2 y3 hix hvs db1 db2 (fun n' hn' => ?_) rfl
                    obtain ⟨fl, hfl⟩ := tri_has hn'
                    obtain ⟨Da, C1, e1, hC, hm1, _, hx1, hns, hk⟩ := hX.tri n' fl hfl
                    rw [hm0] at hm1
                    cases hm1
                    exact ⟨Da, e1, hns, by rw [e1]; exact hx1⟩
                  · cases h
                · cases h
              · cases h
            · cases h
        · cases h
      · cases h
    · cases h
end
/-! ### defs -/
section
variable {K : PySem.W.Frag} {cls : Str → Value} {B : Hp} {L : Nat → Option Addr} {w : Wr} {s : Sx} {σ : L2.St} {H : Hp}
theorem Rel.forget (r : Rel K B L w s σ H) : Rel K B (fun _ => none) w ⟨[], s.c⟩ [] H :=
  ⟨r.gh, r.bh, rfl, fun i d h => by simp at h, fun i d h => by simp at h, fun i d h => by simp at h, fun i a h => (nomatch h), fun i j d d' a h => by simp at h, r.cn, r.cl, r.cf, r.clen⟩
theorem res_forget (r : Rel K B L w s σ H) {x : R} {v : V} {o : CR} (h : ResOk K B w s σ H x v) (e : fin (some (.ret x s)) = some o) : ∃ fr d, o = .ok fr d s.c ∧ ResOk K B w ⟨[], s.c⟩ [] H (crR fr d) v := by
  cases x with
  | sh d => cases e; exact ⟨false, d, rfl, h⟩
  | fr d =>
    cases e
    obtain ⟨a, rfl, q1, q2, q3, q4, _⟩ := h
    exact ⟨true, d, rfl, a, rfl, q1, q2, q3, q4, fun i d' z => by simp at z⟩
  | nm i =>
    have h' : σ[i]? = some (some v) := h
    have e' : (match s.e[i]? with
      | some (some ⟨.ow, d⟩) => some (.ok true d s.c)
      | some (some ⟨.sh, d⟩) => some (.ok false d s.c)
      | _ => none) = some o := e
    split at e'
    · rename_i d hd
      cases e'
      obtain ⟨a, q1, q2, q3, q4, q5⟩ := r.ow i d hd
      rw [h'] at q1
      cases q1
      exact ⟨true, d, rfl, a, rfl, q2, q3, q4, q5, fun i d' z => by simp at z⟩
    · rename_i d hd
      cases e'
      obtain ⟨u, q1, q2⟩ := r.sh i d hd
      rw [h'] at q1
      cases q1
      exact ⟨false, d, rfl, q2⟩
    · cases e'
theorem app_none {α : Type} {l : List (Option α)} {n i : Nat} {x : α} (h : (l ++ List.replicate n none)[i]? = some (some x)) : l[i]? = some (some x) := by
  by_cases hi : i < l.length
  · rw [List.getElem?_append_left hi] at h; exact h
  · rw [List.getElem?_append_right (by omega), List.getElem?_replicate] at h
    split at h <;> cases h
theorem app_some {α : Type} {l : List (Option α)} {n i : Nat} {x : α} (h : l[i]? = some (some x)) : (l ++ List.replicate n none)[i]? = some (some x) := by
  rw [List.getElem?_append_left (List.getElem?_eq_some_iff.mp h).1]; exact h
theorem Rel.start {as : List Sl} {c : List (List D)} {vs : List V} (r : Rel K B L w ⟨as.map some, c⟩ (vs.map some) H) {N : List Str} : Rel K B L w ⟨startE as N.length, c⟩ (L2.start N vs) H := by
  have hl : as.length = vs.length := by have := r.len; simpa using this
  unfold startE L2.start
  refine ⟨r.gh, r.bh, by simp [hl], fun i d h => ?_, fun i d h => ?_, fun i d h => ?_, fun i a h => ?_, fun i j d d' a h1 h2 q1 q2 => ?_, r.cn, r.cl, r.cf, r.clen⟩
  · obtain ⟨v, q1, q2⟩ := r.sh i d (app_none h)
    exact ⟨v, app_some q1, q2⟩
  · obtain ⟨a, q1, q2⟩ := r.ow i d (app_none h)
    exact ⟨a, app_some q1, q2⟩
  · obtain ⟨a, q1, q2⟩ := r.lk i d (app_none h)
    exact ⟨a, app_some q1, q2⟩
  · obtain ⟨d, q⟩ := r.lk' i a h
    exact ⟨d, app_some q⟩
  · exact r.inj i j d d' a (app_none h1) (app_none h2) (app_none q1) (app_none q2)
end
/-- the module's facts that no def changes -/
structure Top (K : PySem.W.Frag) (mg : Str → Option Value) (cls : Str → Value) (con : List (Str × D)) (exc : Exq) : Prop where
  blt : ∀ x, x ∈ (["len", "abs", "min", "max", "sum", "list", "int", "all", "str", "sorted", "range", "enumerate", "zip", "isinstance", "bool", "tuple", "set"] : List Str) → mg x = none
  con : ∀ x d, con.lookup x = some d → (x == ("__debug__" : Str)) = false ∧ ∃ u v, mg x = some u ∧ RelV v u ∧ ∀ w, Rep K w d v
  tri : ∀ n fl, exc.tri.lookup n = some fl → TriOk K mg cls exc.top n fl
  fv : ∀ f, f ∈ exc.fv → ∃ a, PySem.W.nsIn K mainGlobals f = some (some (.ref a)) ∧ mg f = some (.ref a)
  exc : ∀ x, x ∈ exc.names → (x == ("__debug__" : Str)) = false ∧ ∃ C, mg x = some (.ref C) ∧ cls x = .ref C ∧ PySem.W.keepIn K (.ref C) = true ∧ PySem.W.subIn K (.ref C) (.type "BaseException") = some true ∧ PySem.W.typeIn K (.ref C) = some (.type "type") ∧
    PySem.W.excIn K C [.type "ValueError", .type "Exception", .type "BaseException", .type "object"] "ValueError.__new__" = true
/-- a def of the text, and its slim form -/
structure DefAt (K : PySem.W.Frag) (mg : Str → Option Value) (T : Tbl) (fns : List (Str × Bool)) (con : List (Str × D)) (exc : Exq) (f : Str) (a : Addr) (fd : FuncData) (ps : List Str) : Prop where
  ex : ∃ (g : Str) (st : Stmt) (N : List Str) (cel : Nat) (n m : Nat) (G : Fn), Fun K g g st a fd ∧ FnScope N ps (defScope st) ∧ T f = some G ∧ G.np = ps.length ∧ G.nl = N.length ∧
    cSs (cS ⟨N, (defScope st).names, fns, con, exc, cel⟩ m n) (defBody st) = some G.body ∧ ∀ x, x ∈ N → (x == ("__debug__" : Str)) = false ∧ (x == ("__classdict__" : Str)) = false
  bnd : Binds K fd ps []
  mg : mg f = some (.ref a)
  kp : PySem.W.keepIn K (.ref a) = true
  dbg : (f == ("__debug__" : Str)) = false
theorem fn_ok {P : Program} {w : World} {K : PySem.W.Frag} {mg : Str → Option Value} {base : Heap} {cls : Str → Value} {T : Tbl} {fns : List (Str × Bool)} {con : List (Str × D)} {exc : Exq} (top : Top K mg cls con exc)
    (all : ∀ f b, fns.lookup f = some b → ∃ a fd ps, DefAt K mg T fns con exc f a fd ps) (hfv : ∀ f, f ∈ exc.fv → ∃ b, fns.lookup f = some b) : ∀ (k : Nat) {f : Str} {a : Addr} {fd : FuncData} {ps : List Str}, DefAt K mg T fns con exc f a fd ps → FnOk P w K mg base (L2.CX P w) k a fd ps (spF K cls (callD T k) f)
  | 0, f, a, fd, ps, da => by
    have no : ∀ {vs H Q E}, spF K cls (callD T 0) f vs H Q E → False := fun {vs H Q E} ⟨B, L, w, as, c, r, _, e, _⟩ => by cases e
    exact ⟨fun vs H Q E h => (no h).elim, fun A outer s H args us vs Q E hr e0 hb hv h => (no h).elim⟩
  | k + 1, f, a, fd, ps, da => by
    obtain ⟨g, st, N, cel, n, m, G, FN, S, hT, hnp, hnl, hc, hdbg⟩ := da.ex
    have inv : ∀ {as : List Sl} {c : List (List D)} {r : CR}, callD T (k + 1) f as c = some r → as.length = G.np ∧ fin (evSs (callD T k) G.body ⟨startE as G.nl, c⟩) = some r := fun {as c r} e => by
      unfold callD at e
      rw [hT] at e
      simp only at e
      split at e
      · rename_i h
        exact ⟨h, e⟩
      · cases e
    refine FN.okX S (fun vs H Q E h => ?_) (fun cdv A outer s H vs Q E hr h => ?_)
    · obtain ⟨B, L, w, as, c, r, hA, e, _⟩ := h
      have h1 := hA.1.len
      rw [← hnp, ← (inv e).1]
      simpa using h1.symm
    · obtain ⟨B, L, w', as, c, r, hA, e, k1, k2⟩ := h
      obtain ⟨hlen, he⟩ := inv e
      have hX : Ctx (cxOf (L2.CX P w) P w K mg base N g (defScope st) a cdv A outer s H E) ⟨N, (defScope st).names, fns, con, exc, cel⟩ cls (fun c d _ H => E c d H) (callD T k) := by
        refine ⟨rfl, S.nd, rfl, takes_of rfl rfl rfl rfl, ⟨k, hr⟩, hdbg, S.kind, fun x h => h, fun x h => h, fun x h => rfl, fun x h => .inr h, fun x h => h, top.blt, fun f' b h => ?_, top.con, top.tri, fun f' h => ?_, top.exc, fun _ => ⟨rfl, rfl⟩⟩
        · obtain ⟨a', fd', ps', da'⟩ := all f' b h
          exact ⟨da'.dbg, a', fd', ps', k, da'.mg, da'.kp, da'.bnd, hr, fn_ok top all hfv k da'⟩
        · obtain ⟨b, hb⟩ := hfv f' h
          obtain ⟨a', fd', ps', da'⟩ := all f' b hb
          obtain ⟨a2, q1, q2⟩ := top.fv f' h
          exact ⟨⟨da'.dbg, a', fd', ps', k, da'.mg, da'.kp, da'.bnd, hr, fn_ok top all hfv k da'⟩, a2, q1, q2⟩
      have po : PassesOwn (model P w) (A.deeper (envOfC g (defScope st) s.heap.objs.size a cdv)) (envOfC g (defScope st) s.heap.objs.size a cdv) (cxOf (L2.CX P w) P w K mg base N g (defScope st) a cdv A outer s H E).xe := passes_of rfl
      refine ⟨_, ss_ok _ (fun {st c} h => cS_ok n hX po rfl rfl rfl h) hc, ?_⟩
      cases hs : evSs (callD T k) G.body ⟨startE as G.nl, c⟩ with
      | none => rw [hs] at he; cases he
      | some fl =>
        rw [hs] at he
        have R0 := hA.1.start (N := N)
        rw [← hnl] at R0
        refine ⟨B, L, w', _, fl, R0, hs, ?_⟩
        cases fl with
        | nx s1 =>
          cases he
          exact fun w2 σ2 H2 x2 R2 => k1 false .non s1.c rfl w2 .non H2 x2 R2.forget (res_sh rep_non)
        | brk s1 => cases he
        | cnt s1 => cases he
        | ret x s1 =>
          intro w2 σ2 v2 H2 x2 R2 o2
          obtain ⟨fr, d, rfl, res⟩ := res_forget R2 o2 he
          exact k1 fr d s1.c rfl w2 v2 H2 x2 R2.forget res
        | exc nx s1 =>
          cases he
          exact fun w2 σ2 H2 x2 R2 => k2 nx s1.c rfl w2 H2 x2 R2.forget
/-- the law's own promise -/
def spLaw (K : PySem.W.Frag) : Sp := fun vs H Q _ => ∃ (a : Addr) (ns : List Int), vs = [.ref a] ∧ SqL K H a (ns.map V.int) ∧ ns.length ≤ 63 ∧ (∀ z ∈ ns, Builtin.Int.intBits z ≤ 1048576) ∧ ∀ H', Q (.bl true) H'
theorem reps_ints {K : PySem.W.Frag} {w : Wr} : ∀ ns : List Int, Reps K w (ns.map D.int) (ns.map V.int)
  | [] => Reps.nil
  | n :: ns => Reps.cons rep_int (reps_ints ns)
theorem law_imp {K : PySem.W.Frag} {cls : Str → Value} {F : Cf} (hl : ∀ ns : List Int, ns.length ≤ 63 → (∀ z ∈ ns, Builtin.Int.intBits z ≤ 1048576) → ∃ c, F "law" [⟨.sh, .fl (ns.map D.int)⟩] [] = some (.ok false (.bl true) c)) :
    ∀ vs H Q E, spLaw K vs H Q E → spF K cls F "law" vs H Q E := fun vs H Q E ⟨a, ns, e, hS, h63, hb, q⟩ => by
  subst e
  obtain ⟨c, hc⟩ := hl ns h63 hb
  refine ⟨H, fun _ => none, ⟨H, []⟩, [⟨.sh, .fl (ns.map D.int)⟩], [], _, ⟨⟨fun _ _ h => h, fun _ _ h => h, rfl, fun i d h => ?_, fun i d h => ?_, fun i d h => ?_, fun i a h => (nomatch h), fun i j d d' a h => ?_, List.nodup_nil, fun n ds h => by simp at h, fun a h => by simp at h, rfl⟩, fun x hx => ?_⟩, hc, fun fr d c' eo w' v H' ex R' res => ?_, fun n c' eo => (nomatch eo)⟩
  · have h' := map_some_get h
    cases i with
    | zero =>
      cases h'
      refine ⟨.ref a, rfl, ?_⟩
      unfold Rep
      exact ⟨a, _, rfl, hS, reps_ints ns⟩
    | succ i => simp at h'
  · have h' := map_some_get h
    cases i with
    | zero => cases h'
    | succ i => simp at h'
  · have h' := map_some_get h
    cases i with
    | zero => cases h'
    | succ i => simp at h'
  · have h' := map_some_get h
    cases i with
    | zero => cases h'
    | succ i => simp at h'
  · have e : x = ⟨.sh, .fl (ns.map D.int)⟩ := by simpa using hx
    rw [e]
    exact fun z => nomatch z
  · cases eo
    have h' : Rep K w' (.bl true) v := res
    unfold Rep at h'
    rw [h']
    exact q H'
theorem cx_no {P : Program} {w : World} {H : Hp} {s : Shared} {e : Value} {s' : Shared} (h : L2.CX P w [] H s (fun _ _ _ => False) e s') : False := by
  obtain ⟨_, _, _, _, _, _, _, _, _, _, _, _, z⟩ := h
  exact z.elim
end PV
/-! The evaluator as simp lemmas: what comes next waits in an argument that simp leaves alone till its turn (`bl`, `Tag`). -/
namespace PV
open PySem PySem.Spec PyProof.Rows L2
structure Tag {α : Type} (a : α) : Type where
/-- then; simp doesn't look into f -/
def bl {α β : Type} (m : M α) (f : α → M β) (_u : Tag f) : M β := bd m f
section
variable {α β γ : Type} {F : Cf} {s s' : Sx} {e : List (Option Sl)} {c : List (List D)}
@[simp ↓] theorem bl_pu {a : α} {f : α → M β} {u : Tag f} : bl (pu a) f u = f a := rfl
@[simp] theorem pu_s {a : α} : pu a s = some (.ok a s) := rfl
@[simp] theorem eop_some {a : α} : op? (some a) = pu a := rfl
@[simp] theorem op_none : (op? none : M α) s = none := rfl
@[simp ↓] theorem bl_bl {m : M α} {f : α → M β} {g : β → M γ} {u : Tag f} {v : Tag g} : bl (bl m f u) g v = bl m (fun a => bl (f a) g ⟨⟩) ⟨⟩ := by
  funext s
  unfold bl bd
  cases m s with
  | none => rfl
  | some o => cases o <;> rfl
theorem bl_some {m : M α} {f : α → M β} {u : Tag f} {a : α} (h : m s = some (.ok a s')) : bl m f u s = f a s' := by
  unfold bl bd
  rw [h]
theorem bl_exc {m : M α} {f : α → M β} {u : Tag f} {n : Str} (h : m s = some (.exc n s')) : bl m f u s = some (.exc n s') := by
  unfold bl bd
  rw [h]
/-- a value as it is read -/
def derM (d : D) : M D := fun s => op? (der s.c d) s
@[simp] theorem lkp_sh {d : D} : lkp (.sh d) = derM d := rfl
@[simp] theorem derM_int {i : Int} : derM (.int i) = pu (.int i) := rfl
@[simp] theorem derM_bl {i : Bool} : derM (.bl i) = pu (.bl i) := rfl
@[simp] theorem derM_str {i : Str} : derM (.str i) = pu (.str i) := rfl
@[simp] theorem derM_non : derM .non = pu .non := rfl
@[simp] theorem derM_lst {i : List D} : derM (.lst i) = pu (.lst i) := rfl
@[simp] theorem derM_fl {i : List D} : derM (.fl i) = pu (.fl i) := rfl
@[simp] theorem derM_tup {i : List D} : derM (.tup i) = pu (.tup i) := rfl
@[simp] theorem derM_dct {i : List (Key × V)} : derM (.dct i) = pu (.dct i) := rfl
@[simp] theorem derM_err {i : Str} : derM (.err i) = pu (.err i) := rfl
@[simp] theorem derM_fn {i : Str} : derM (.fn i) = pu (.fn i) := rfl
def celB (o : Option (List D)) (f : D → M β) (_u : Tag f) (s : Sx) : Option (Out β) := match o with
  | some ds => f (.lst ds) s
  | none => none
@[simp ↓] theorem celB_s {ds : List D} {f : D → M β} {u : Tag f} : celB (some ds) f u s = f (.lst ds) s := rfl
@[simp] theorem derM_cel {n : Nat} : derM (.cel n) s = celB s.c[n]? pu ⟨⟩ s := by
  cases h : s.c[n]? <;> simp only [derM, der, op?, h, celB, pu]
@[simp ↓] theorem bl_derM_cel {n : Nat} {f : D → M β} {u : Tag f} : bl (derM (.cel n)) f u s = celB s.c[n]? f ⟨⟩ s := by
  unfold bl bd
  rw [derM_cel]
  cases s.c[n]? <;> rfl
/-- no list with an identity -/
def NoC (d : D) : Prop := ∀ n, d ≠ .cel n
theorem derM_of {d : D} (h : NoC d) : derM d = pu d := by
  cases d with
  | cel n => exact absurd rfl (h n)
  | _ => rfl
@[simp] theorem lkp_frl {ds : List D} : lkp (.fr (.lst ds)) = pu (.lst ds) := rfl
@[simp] theorem esc_sh {d : D} : esc (.sh d) = pu d := rfl
@[simp] theorem esc_frl {ds : List D} : esc (.fr (.lst ds)) = pu (.lst ds) := rfl
@[simp] theorem escs_nil : escs [] = pu [] := rfl
@[simp] theorem escs_cons {r : R} {rs : List R} : escs (r :: rs) = bl (esc r) (fun d => bl (escs rs) (fun ds => pu (d :: ds)) ⟨⟩) ⟨⟩ := rfl
@[simp] theorem looks_nil : looks [] = pu [] := rfl
@[simp] theorem looks_cons {r : R} {rs : List R} : looks (r :: rs) = bl (lkp r) (fun d => bl (looks rs) (fun ds => pu (d :: ds)) ⟨⟩) ⟨⟩ := rfl
/-- by what a slot holds -/
def vS (o : Option (Option Sl)) (k : Sl → Sx → Option γ) (_u : Tag k) (s : Sx) : Option γ := match o with
  | some (some sl) => k sl s
  | _ => none
@[simp ↓] theorem vS_s {sl : Sl} {k : Sl → Sx → Option γ} {u : Tag k} : vS (some (some sl)) k u s = k sl s := rfl
/-- a name looked at -/
@[simp ↓] theorem lkp_nm {i : Nat} {f : D → M β} {u : Tag f} : bl (lkp (.nm i)) f u s = vS s.e[i]? (fun sl => bl (derM sl.d) f ⟨⟩) ⟨⟩ s := by
  unfold bl bd lkp look derM vS
  dsimp only
  rcases s.e[i]? with _ | _ | sl <;> rfl
@[simp] theorem lkp_nm' {i : Nat} : lkp (.nm i) s = vS s.e[i]? (fun sl => derM sl.d) ⟨⟩ s := by
  unfold lkp look derM vS
  dsimp only
  rcases s.e[i]? with _ | _ | sl <;> rfl
def escS (o : Option (Option Sl)) (i : Nat) (f : D → M β) (_u : Tag f) (s : Sx) : Option (Out β) := match o with
  | some (some ⟨.sh, d⟩) => f d s
  | some (some ⟨.ow, .lst ds⟩) => f (.lst ds) { s with e := s.e.set i (some ⟨.sh, .lst ds⟩) }
  | _ => none
@[simp ↓] theorem escS_sh {d : D} {i : Nat} {f : D → M β} {u : Tag f} : escS (some (some ⟨.sh, d⟩)) i f u s = f d s := rfl
@[simp ↓] theorem escS_ow {ds : List D} {i : Nat} {f : D → M β} {u : Tag f} : escS (some (some ⟨.ow, .lst ds⟩)) i f u s = f (.lst ds) { s with e := s.e.set i (some ⟨.sh, .lst ds⟩) } := rfl
@[simp ↓] theorem esc_nm {i : Nat} {f : D → M β} {u : Tag f} : bl (esc (.nm i)) f u s = escS s.e[i]? i f ⟨⟩ s := by
  unfold bl bd esc escS
  dsimp only
  rcases s.e[i]? with _ | _ | ⟨k, d⟩ <;> try rfl
  cases k <;> try rfl
  cases d <;> rfl
@[simp] theorem esc_nm' {i : Nat} : esc (.nm i) s = escS s.e[i]? i pu ⟨⟩ s := by
  unfold esc escS
  dsimp only
  rcases s.e[i]? with _ | _ | ⟨k, d⟩ <;> first | rfl | (cases k <;> first | rfl | (cases d <;> rfl))
@[simp ↓] theorem ev_var {i : Nat} {f : R → M β} {u : Tag f} : bl (evE F (.var i)) f u s = vS s.e[i]? (fun _ => f (.nm i)) ⟨⟩ s := by
  unfold bl bd evE vS
  rcases s.e[i]? with _ | _ | sl <;> rfl
@[simp] theorem ev_var' {i : Nat} : evE F (.var i) s = vS s.e[i]? (fun _ => pu (.nm i)) ⟨⟩ s := by
  unfold evE vS
  rcases s.e[i]? with _ | _ | sl <;> rfl
@[simp] theorem ev_con {d : D} : evE F (.con d) = pu (.sh d) := rfl
@[simp] theorem ev_bin {o : Bop} {a b : Ex} : evE F (.bin o a b) = bl (evE F a) (fun x => bl (evE F b) (fun y => bl (lkp x) (fun d => bl (lkp y) (fun d' => op? (bop o d d')) ⟨⟩) ⟨⟩) ⟨⟩) ⟨⟩ := rfl
def negD : D → Option R
  | .int i => some (.sh (.int (-i)))
  | _ => none
@[simp] theorem negD_i {i : Int} : negD (.int i) = some (.sh (.int (-i))) := rfl
@[simp] theorem ev_neg {a : Ex} : evE F (.neg a) = bl (evE F a) (fun x => bl (lkp x) (fun d => op? (negD d)) ⟨⟩) ⟨⟩ := rfl
def notD : D → Option R
  | .bl c => some (.sh (.bl (!c)))
  | _ => none
@[simp] theorem notD_b {c : Bool} : notD (.bl c) = some (.sh (.bl (!c))) := rfl
@[simp] theorem ev_nt {a : Ex} : evE F (.nt a) = bl (evE F a) (fun x => bl (lkp x) (fun d => op? (notD d)) ⟨⟩) ⟨⟩ := rfl
def boolD : D → Option R
  | .bl c => some (.sh (.bl c))
  | _ => none
@[simp] theorem boolD_b {c : Bool} : boolD (.bl c) = some (.sh (.bl c)) := rfl
/-- m where it is so, else False -/
def andB (d : D) (m : M R) (_u : Tag m) : M R := match d with
  | .bl true => m
  | .bl false => pu (.sh (.bl false))
  | _ => fun _ => none
@[simp ↓] theorem andB_t {m : M R} {u : Tag m} : andB (.bl true) m u = m := rfl
@[simp ↓] theorem andB_f {m : M R} {u : Tag m} : andB (.bl false) m u = pu (.sh (.bl false)) := rfl
def orB (d : D) (m : M R) (_u : Tag m) : M R := match d with
  | .bl false => m
  | .bl true => pu (.sh (.bl true))
  | _ => fun _ => none
@[simp ↓] theorem orB_f {m : M R} {u : Tag m} : orB (.bl false) m u = m := rfl
@[simp ↓] theorem orB_t {m : M R} {u : Tag m} : orB (.bl true) m u = pu (.sh (.bl true)) := rfl
@[simp] theorem ev_an {a b : Ex} : evE F (.an a b) = bl (evE F a) (fun x => bl (lkp x) (fun d => andB d (bl (evE F b) (fun y => bl (lkp y) (fun d' => op? (boolD d')) ⟨⟩) ⟨⟩) ⟨⟩) ⟨⟩) ⟨⟩ := by
  rfl
@[simp] theorem ev_orr {a b : Ex} : evE F (.orr a b) = bl (evE F a) (fun x => bl (lkp x) (fun d => orB d (bl (evE F b) (fun y => bl (lkp y) (fun d' => op? (boolD d')) ⟨⟩) ⟨⟩) ⟨⟩) ⟨⟩) ⟨⟩ := by
  rfl
/-- m where it is none -/
def orvB (d : D) (m : M R) (_u : Tag m) : M R := match d with
  | .non => m
  | .tup (d0 :: ds) => pu (.sh (.tup (d0 :: ds)))
  | _ => fun _ => none
@[simp ↓] theorem orvB_n {m : M R} {u : Tag m} : orvB .non m u = m := rfl
@[simp ↓] theorem orvB_t {d : D} {ds : List D} {m : M R} {u : Tag m} : orvB (.tup (d :: ds)) m u = pu (.sh (.tup (d :: ds))) := rfl
@[simp] theorem ev_orv {a b : Ex} : evE F (.orv a b) = bl (evE F a) (fun x => bl (lkp x) (fun d => orvB d (evE F b) ⟨⟩) ⟨⟩) ⟨⟩ := by
  rfl
def shB (c : Bool) : R := .sh (.bl c)
@[simp] theorem shB_s {c : Bool} : shB c = .sh (.bl c) := rfl
@[simp] theorem ev_cmp {o : Cop} {a b : Ex} : evE F (.cmp o a b) = bl (evE F a) (fun x => bl (evE F b) (fun y => bl (lkp x) (fun d => bl (lkp y) (fun d' => op? ((cop o d d').map shB)) ⟨⟩) ⟨⟩) ⟨⟩) ⟨⟩ := rfl
@[simp] theorem ev_lset {a : Ex} : evE F (.lset a) = bl (evE F a) (fun x => bl (lkp x) (fun d => op? (lsetD d)) ⟨⟩) ⟨⟩ := rfl
@[simp] theorem ev_nir {a b : Ex} : evE F (.nir a b) = bl (evE F a) (fun x => bl (evE F b) (fun y => bl (lkp x) (fun d => bl (lkp y) (fun d' => op? (nirD d d')) ⟨⟩) ⟨⟩) ⟨⟩) ⟨⟩ := rfl
@[simp] theorem nirD_s {i j : Int} : nirD (.int i) (.int j) = some (.sh (.bl (!decide (0 ≤ i ∧ i < j)))) := rfl
/-- m where it is so -/
def ifB (z : Bool) (m : M R) (_u : Tag m) : M R := match z with
  | true => m
  | false => pu (.sh (.bl false))
@[simp ↓] theorem ifB_t {m : M R} {u : Tag m} : ifB true m u = m := rfl
@[simp ↓] theorem ifB_f {m : M R} {u : Tag m} : ifB false m u = pu (.sh (.bl false)) := rfl
@[simp] theorem ev_ch {o o' : Cop} {a b c : Ex} : evE F (.ch o o' a b c) = bl (evE F a) (fun x => bl (evE F b) (fun y => bl (lkp x) (fun d => bl (lkp y) (fun d' => bl (op? (cop o d d')) (fun z => ifB z (bl (evE F c) (fun u => bl (lkp y) (fun d => bl (lkp u) (fun d' => op? ((cop o' d d').map shB)) ⟨⟩) ⟨⟩) ⟨⟩) ⟨⟩) ⟨⟩) ⟨⟩) ⟨⟩) ⟨⟩) ⟨⟩ := by
  have bb : ∀ {α β γ : Type} {m : M α} {f : α → M β} {g : β → M γ}, bd (bd m f) g = bd m fun a => bd (f a) g := fun {α β γ m f g} => by
    funext s
    unfold bd
    cases m s with
    | none => rfl
    | some o => cases o <;> rfl
  simp only [evE, look2, bl, bb]
  congr 1; funext x; congr 1; funext y; congr 1; funext d; congr 1; funext d'
  cases cop o d d' with
  | none => funext s; rfl
  | some z => cases z <;> rfl
@[simp] theorem ev_ch3 {o o' o'' : Cop} {a b c e : Ex} : evE F (.ch3 o o' o'' a b c e) = bl (evE F a) (fun x => bl (evE F b) (fun y => bl (lkp x) (fun d => bl (lkp y) (fun d' => bl (op? (cop o d d')) (fun z => ifB z (bl (evE F c) (fun u => bl (lkp y) (fun d => bl (lkp u) (fun d' => bl (op? (cop o' d d')) (fun z' => ifB z' (bl (evE F e) (fun v => bl (lkp u) (fun d => bl (lkp v) (fun d' => op? ((cop o'' d d').map shB)) ⟨⟩) ⟨⟩) ⟨⟩) ⟨⟩) ⟨⟩) ⟨⟩) ⟨⟩) ⟨⟩) ⟨⟩) ⟨⟩) ⟨⟩) ⟨⟩) ⟨⟩) ⟨⟩ := by
  have bb : ∀ {α β γ : Type} {m : M α} {f : α → M β} {g : β → M γ}, bd (bd m f) g = bd m fun a => bd (f a) g := fun {α β γ m f g} => by
    funext s
    unfold bd
    cases m s with
    | none => rfl
    | some o => cases o <;> rfl
  simp only [evE, look2, bl, bb]
  congr 1; funext x; congr 1; funext y; congr 1; funext d; congr 1; funext d'
  cases cop o d d' with
  | none => funext s; rfl
  | some z =>
    cases z with
    | false => rfl
    | true =>
      show bd (evE F c) _ = bd (evE F c) _
      refine congrArg (bd (evE F c)) ?_
      funext u
      show bd (lkp y) (fun d => bd (lkp u) fun d' => bd (op? ((cop o' d d').map fun c => R.sh (.bl c))) _) = bd (lkp y) (fun d => bd (lkp u) fun d' => bd (op? (cop o' d d')) _)
      congr 1; funext v; congr 1; funext w
      cases cop o' v w with
      | none => rfl
      | some z => cases z <;> rfl
/-- one of two -/
def iteB (z : Bool) (m m' : M R) (_u : Tag (m, m')) : M R := match z with
  | true => m
  | false => m'
@[simp ↓] theorem iteB_t {m m' : M R} {u : Tag (m, m')} : iteB true m m' u = m := rfl
@[simp ↓] theorem iteB_f {m m' : M R} {u : Tag (m, m')} : iteB false m m' u = m' := rfl
@[simp] theorem ev_ife {t a b : Ex} : evE F (.ife t a b) = bl (evE F t) (fun x => bl (truM x) (fun c => iteB c (evE F a) (evE F b) ⟨⟩) ⟨⟩) ⟨⟩ := by
  rfl
def big (f : List D → R) (ds : List D) : M R := fun s => if ds.length ≤ 16777216 then some (.ok (f ds) s) else none
@[simp] theorem big_s {f : List D → R} {ds : List D} (h : ds.length ≤ 16777216) : big f ds = pu (f ds) := by
  funext s
  unfold big
  rw [if_pos h]
  rfl
def rTup (ds : List D) : R := .sh (.tup ds)
def rLst (ds : List D) : R := .fr (.lst ds)
@[simp] theorem rTup_s {ds : List D} : rTup ds = .sh (.tup ds) := rfl
@[simp] theorem rLst_s {ds : List D} : rLst ds = .fr (.lst ds) := rfl
@[simp] theorem ev_tup {es : Exs} : evE F (.tup es) = bl (evAs F es) (fun rs => bl (escs rs) (fun ds => big rTup ds) ⟨⟩) ⟨⟩ := rfl
@[simp] theorem ev_lst {es : Exs} : evE F (.lst es) = bl (evAs F es) (fun rs => bl (escs rs) (fun ds => big rLst ds) ⟨⟩) ⟨⟩ := rfl
def celM (ds : List D) : M R := fun s => if ds.length ≤ 16777216 then some (.ok (.sh (.cel s.c.length)) { s with c := s.c ++ [ds] }) else none
@[simp] theorem celM_s {ds : List D} (h : ds.length ≤ 16777216) : celM ds s = some (.ok (.sh (.cel s.c.length)) { s with c := s.c ++ [ds] }) := if_pos h
@[simp ↓] theorem bl_celM {ds : List D} {f : R → M β} {u : Tag f} (h : ds.length ≤ 16777216) : bl (celM ds) f u s = f (.sh (.cel s.c.length)) { s with c := s.c ++ [ds] } := bl_some (celM_s h)
@[simp] theorem ev_cel {es : Exs} : evE F (.cel es) = bl (evAs F es) (fun rs => bl (escs rs) (fun ds => celM ds) ⟨⟩) ⟨⟩ := rfl
@[simp] theorem celOfM_s {ds : List D} : celOfM (.fr (.lst ds)) s = some (.ok (.sh (.cel s.c.length)) { s with c := s.c ++ [ds] }) := rfl
@[simp ↓] theorem bl_celOfM {ds : List D} {f : R → M β} {u : Tag f} : bl (celOfM (.fr (.lst ds))) f u s = f (.sh (.cel s.c.length)) { s with c := s.c ++ [ds] } := bl_some celOfM_s
@[simp] theorem ev_celOf {a : Ex} : evE F (.celOf a) = bl (evE F a) (fun x => celOfM x) ⟨⟩ := rfl
@[simp] theorem ev_ix {a b : Ex} : evE F (.ix a b) = bl (evE F a) (fun x => bl (evE F b) (fun y => bl (lkp x) (fun d => bl (lkp y) (fun d' => op? ((ixD d d').map .sh)) ⟨⟩) ⟨⟩) ⟨⟩) ⟨⟩ := rfl
@[simp] theorem ev_sl {a : Ex} {lo hi : Exo} : evE F (.sl a lo hi) = bl (evE F a) (fun x => bl (evO F lo) (fun l => bl (evO F hi) (fun h => bl (lkp x) (fun d => op? (slD d l h)) ⟨⟩) ⟨⟩) ⟨⟩) ⟨⟩ := rfl
@[simp] theorem ev_rev {a : Ex} : evE F (.rev a) = bl (evE F a) (fun x => bl (lkp x) (fun d => op? (revD d)) ⟨⟩) ⟨⟩ := rfl
def slsM (rs : List R) : M (List Sl) := fun s => op? (slsOf s rs) s
@[simp] theorem slsM_nil : slsM [] = pu [] := rfl
@[simp] theorem slsM_sh {d : D} {rs : List R} : slsM (.sh d :: rs) = bl (slsM rs) (fun as => pu (⟨.sh, d⟩ :: as)) ⟨⟩ := by
  funext s
  simp only [slsM, slsOf, slOf, bl, bd]
  cases slsOf s rs <;> rfl
@[simp] theorem slsM_frl {ds : List D} {rs : List R} : slsM (.fr (.lst ds) :: rs) = bl (slsM rs) (fun as => pu (⟨.sh, .lst ds⟩ :: as)) ⟨⟩ := by
  funext s
  simp only [slsM, slsOf, slOf, bl, bd]
  cases slsOf s rs <;> rfl
/-- a slot as it is handed on -/
def hand (sl : Sl) : Sl := ⟨if sl.k = .ow then .lk else sl.k, sl.d⟩
@[simp] theorem hand_sh {d : D} : hand ⟨.sh, d⟩ = ⟨.sh, d⟩ := rfl
@[simp] theorem hand_ow {d : D} : hand ⟨.ow, d⟩ = ⟨.lk, d⟩ := rfl
@[simp] theorem hand_lk {d : D} : hand ⟨.lk, d⟩ = ⟨.lk, d⟩ := rfl
@[simp] theorem hand_ne {d : D} {κ : Kd} (h : κ ≠ .ow) : hand ⟨κ, d⟩ = ⟨κ, d⟩ := by
  unfold hand
  rw [if_neg h]
@[simp ↓] theorem slsM_nm {i : Nat} {rs : List R} {f : List Sl → M β} {u : Tag f} : bl (slsM (.nm i :: rs)) f u s = vS s.e[i]? (fun sl => bl (slsM rs) (fun as => f (hand sl :: as)) ⟨⟩) ⟨⟩ s := by
  simp only [slsM, slsOf, slOf, bl, bd, vS]
  rcases s.e[i]? with _ | _ | ⟨k, d⟩ <;> try rfl
  dsimp only
  cases slsOf s rs <;> rfl
@[simp] theorem ev_call {f : Str} {es : Exs} : evE F (.call false f es) = bl (evAs F es) (fun rs => bl (slsM rs) (fun as => runF F f as) ⟨⟩) ⟨⟩ := rfl
def shs (ds : List D) : List Sl := ds.map fun d => ⟨.sh, d⟩
@[simp] theorem shs_nil : shs [] = [] := rfl
@[simp] theorem shs_cons {d : D} {ds : List D} : shs (d :: ds) = ⟨.sh, d⟩ :: shs ds := rfl
@[simp] theorem ev_callS {f : Str} {es : Exs} : evE F (.call true f es) = bl (evAs F es) (fun rs => bl (escs rs) (fun ds => runF F f (shs ds)) ⟨⟩) ⟨⟩ := by
  have bb : ∀ {α β γ : Type} {m : M α} {f : α → M β} {g : β → M γ}, bd (bd m f) g = bd m fun a => bd (f a) g := fun {α β γ m f g} => by
    funext s
    unfold bd
    cases m s with
    | none => rfl
    | some o => cases o <;> rfl
  show bd (evAs F es) (fun rs => bd (bd (escs rs) fun ds => pu (ds.map fun d => (⟨.sh, d⟩ : Sl))) fun as => runF F f as) = _
  simp only [bb]
  rfl
@[simp] theorem ev_blt {f : Blt} {es : Exs} : evE F (.blt f es) = bl (evAs F es) (fun rs => bl (looks rs) (fun ds => op? (bltD f ds)) ⟨⟩) ⟨⟩ := rfl
@[simp] theorem ev_isi {a : Ex} {ts : List Ty} : evE F (.isi a ts) = bl (evE F a) (fun x => bl (lkp x) (fun d => op? ((isD d ts).map shB)) ⟨⟩) ⟨⟩ := rfl
def lstM (d : D) (m : M R) (_u : Tag m) : M R := match d with
  | .lst _ => m
  | _ => fun _ => none
@[simp ↓] theorem lstM_l {ds : List D} {m : M R} {u : Tag m} : lstM (.lst ds) m u = m := rfl
theorem ev_mut {m : Mth} {a : Ex} {es : Exs} (h : isMut m = true) : evE F (.mt m a es) = bl (evE F a) (fun x => bl (lkp x) (fun d => lstM d (bl (evAs F es) (fun rs => bl (escs rs) (fun ds => mutE m x ds) ⟨⟩) ⟨⟩) ⟨⟩) ⟨⟩) ⟨⟩ := by
  simp only [evE]
  show bd (evE F a) _ = bd (evE F a) _
  congr 1; funext x
  show bd (lkp x) _ = bd (lkp x) _
  congr 1; funext d
  rw [h]
  cases d <;> rfl
@[simp] theorem ev_app {a : Ex} {es : Exs} : evE F (.mt .append a es) = bl (evE F a) (fun x => bl (lkp x) (fun d => lstM d (bl (evAs F es) (fun rs => bl (escs rs) (fun ds => mutE .append x ds) ⟨⟩) ⟨⟩) ⟨⟩) ⟨⟩) ⟨⟩ := ev_mut rfl
@[simp] theorem ev_pop {a : Ex} {es : Exs} : evE F (.mt .pop a es) = bl (evE F a) (fun x => bl (lkp x) (fun d => lstM d (bl (evAs F es) (fun rs => bl (escs rs) (fun ds => mutE .pop x ds) ⟨⟩) ⟨⟩) ⟨⟩) ⟨⟩) ⟨⟩ := ev_mut rfl
@[simp] theorem ev_popAt {a : Ex} {es : Exs} : evE F (.mt .popAt a es) = bl (evE F a) (fun x => bl (lkp x) (fun d => lstM d (bl (evAs F es) (fun rs => bl (escs rs) (fun ds => mutE .popAt x ds) ⟨⟩) ⟨⟩) ⟨⟩) ⟨⟩) ⟨⟩ := ev_mut rfl
@[simp] theorem ev_extend {a : Ex} {es : Exs} : evE F (.mt .extend a es) = bl (evE F a) (fun x => bl (lkp x) (fun d => lstM d (bl (evAs F es) (fun rs => bl (escs rs) (fun ds => mutE .extend x ds) ⟨⟩) ⟨⟩) ⟨⟩) ⟨⟩) ⟨⟩ := ev_mut rfl
@[simp] theorem ev_insert {a : Ex} {es : Exs} : evE F (.mt .insert a es) = bl (evE F a) (fun x => bl (lkp x) (fun d => lstM d (bl (evAs F es) (fun rs => bl (escs rs) (fun ds => mutE .insert x ds) ⟨⟩) ⟨⟩) ⟨⟩) ⟨⟩) ⟨⟩ := ev_mut rfl
@[simp] theorem ev_clear {a : Ex} {es : Exs} : evE F (.mt .clear a es) = bl (evE F a) (fun x => bl (lkp x) (fun d => lstM d (bl (evAs F es) (fun rs => bl (escs rs) (fun ds => mutE .clear x ds) ⟨⟩) ⟨⟩) ⟨⟩) ⟨⟩) ⟨⟩ := ev_mut rfl
def rdM (b : Bool) (m : M R) (_u : Tag m) : M R := match b with
  | true => m
  | false => fun _ => none
@[simp ↓] theorem rdM_t {m : M R} {u : Tag m} : rdM true m u = m := rfl
theorem ev_rd {m : Mth} {a : Ex} {es : Exs} (h : isMut m = false) : evE F (.mt m a es) = bl (evE F a) (fun x => bl (lkp x) (fun d => rdM (mthK m d) (bl (evAs F es) (fun rs => bl (looks rs) (fun ds => bl (lkp x) (fun d' => op? (mthD m d' ds)) ⟨⟩) ⟨⟩) ⟨⟩) ⟨⟩) ⟨⟩) ⟨⟩ := by
  simp only [evE]
  show bd (evE F a) _ = bd (evE F a) _
  congr 1; funext x
  show bd (lkp x) _ = bd (lkp x) _
  congr 1; funext d
  rw [h]
  dsimp only
  cases mthK m d <;> rfl
@[simp] theorem ev_index {a : Ex} {es : Exs} : evE F (.mt .index a es) = bl (evE F a) (fun x => bl (lkp x) (fun d => rdM (mthK .index d) (bl (evAs F es) (fun rs => bl (looks rs) (fun ds => bl (lkp x) (fun d' => op? (mthD .index d' ds)) ⟨⟩) ⟨⟩) ⟨⟩) ⟨⟩) ⟨⟩) ⟨⟩ := ev_rd rfl
@[simp] theorem ev_count {a : Ex} {es : Exs} : evE F (.mt .count a es) = bl (evE F a) (fun x => bl (lkp x) (fun d => rdM (mthK .count d) (bl (evAs F es) (fun rs => bl (looks rs) (fun ds => bl (lkp x) (fun d' => op? (mthD .count d' ds)) ⟨⟩) ⟨⟩) ⟨⟩) ⟨⟩) ⟨⟩) ⟨⟩ := ev_rd rfl
@[simp] theorem ev_get {a : Ex} {es : Exs} : evE F (.mt .get a es) = bl (evE F a) (fun x => bl (lkp x) (fun d => rdM (mthK .get d) (bl (evAs F es) (fun rs => bl (looks rs) (fun ds => bl (lkp x) (fun d' => op? (mthD .get d' ds)) ⟨⟩) ⟨⟩) ⟨⟩) ⟨⟩) ⟨⟩) ⟨⟩ := ev_rd rfl
@[simp] theorem ev_join {a : Ex} {es : Exs} : evE F (.mt .join a es) = bl (evE F a) (fun x => bl (lkp x) (fun d => rdM (mthK .join d) (bl (evAs F es) (fun rs => bl (looks rs) (fun ds => bl (lkp x) (fun d' => op? (mthD .join d' ds)) ⟨⟩) ⟨⟩) ⟨⟩) ⟨⟩) ⟨⟩) ⟨⟩ := ev_rd rfl
@[simp] theorem ev_split {a : Ex} {es : Exs} : evE F (.mt .split a es) = bl (evE F a) (fun x => bl (lkp x) (fun d => rdM (mthK .split d) (bl (evAs F es) (fun rs => bl (looks rs) (fun ds => bl (lkp x) (fun d' => op? (mthD .split d' ds)) ⟨⟩) ⟨⟩) ⟨⟩) ⟨⟩) ⟨⟩) ⟨⟩ := ev_rd rfl
@[simp] theorem mthK_index {ds : List D} : mthK .index (.lst ds) = true := rfl
@[simp] theorem mthK_count {ds : List D} : mthK .count (.lst ds) = true := rfl
@[simp] theorem mthK_get {ds : List (Key × V)} : mthK .get (.dct ds) = true := rfl
@[simp] theorem mthK_join {x : Str} : mthK .join (.str x) = true := rfl
@[simp] theorem mthK_split {x : Str} : mthK .split (.str x) = true := rfl
/-- what a change gives, and the list behind it -/
def chB (o : Option (D × List D)) (g : List D → Sx) : Option (Out R) := match o with
  | some (y, ys) => some (Out.ok (R.sh y) (g ys))
  | none => none
@[simp ↓] theorem chB_s {y : D} {ys : List D} {g : List D → Sx} : chB (some (y, ys)) g = some (Out.ok (R.sh y) (g ys)) := rfl
def blB (o : Option (Out α)) (f : α → M β) (_u : Tag f) : Option (Out β) := match o with
  | none => none
  | some (.ok a s') => f a s'
  | some (.exc n s') => some (.exc n s')
@[simp ↓] theorem blB_ok {a : α} {f : α → M β} {u : Tag f} : blB (some (.ok a s)) f u = f a s := rfl
@[simp ↓] theorem blB_exc {n : Str} {f : α → M β} {u : Tag f} : blB (some (.exc n s)) f u = some (.exc n s) := rfl
theorem bl_s {m : M α} {f : α → M β} {u : Tag f} : bl m f u s = blB (m s) f ⟨⟩ := rfl
def mutCo (o : Option (List D)) (m : Mth) (n : Nat) (ds : List D) (s : Sx) : Option (Out R) :=
  match o with
  | some xs => chB (mutD m xs ds) fun ys => { s with c := s.c.set n ys }
  | none => none
@[simp ↓] theorem mutCo_s {xs : List D} {m : Mth} {n : Nat} {ds : List D} : mutCo (some xs) m n ds s = chB (mutD m xs ds) fun ys => { s with c := s.c.set n ys } := rfl
@[simp] theorem mutC_s {m : Mth} {n : Nat} {ds : List D} : mutC m n ds s = mutCo s.c[n]? m n ds s := by
  unfold mutC mutCo chB
  cases s.c[n]? with
  | none => rfl
  | some xs => rcases mutD m xs ds with _ | ⟨y, ys⟩ <;> rfl
@[simp ↓] theorem bl_mutC {m : Mth} {n : Nat} {ds : List D} {f : R → M β} {u : Tag f} : bl (mutC m n ds) f u s = blB (mutCo s.c[n]? m n ds s) f ⟨⟩ := by
  rw [bl_s, mutC_s]
/-- by what the slot holds -/
def mutS (m : Mth) (i : Nat) (ds : List D) (o : Option (Option Sl)) (s : Sx) : Option (Out R) := match o with
  | some (some ⟨.ow, .lst xs⟩) => chB (mutD m xs ds) fun ys => { s with e := s.e.set i (some ⟨.ow, .lst ys⟩) }
  | some (some ⟨.sh, .cel n⟩) => mutC m n ds s
  | _ => none
@[simp ↓] theorem mutS_ow {m : Mth} {i : Nat} {ds xs : List D} : mutS m i ds (some (some ⟨.ow, .lst xs⟩)) s = chB (mutD m xs ds) fun ys => { s with e := s.e.set i (some ⟨.ow, .lst ys⟩) } := rfl
@[simp ↓] theorem mutS_cel {m : Mth} {i n : Nat} {ds : List D} : mutS m i ds (some (some ⟨.sh, .cel n⟩)) s = mutC m n ds s := rfl
@[simp] theorem mutE_nm {m : Mth} {i : Nat} {ds : List D} : mutE m (.nm i) ds s = mutS m i ds s.e[i]? s := by
  unfold mutE mutS chB
  dsimp only
  try (rcases s.e[i]? with _ | _ | ⟨k, d⟩ <;> rfl)
@[simp ↓] theorem bl_mutE {m : Mth} {i : Nat} {ds : List D} {f : R → M β} {u : Tag f} : bl (mutE m (.nm i) ds) f u s = blB (mutS m i ds s.e[i]? s) f ⟨⟩ := by
  rw [bl_s, mutE_nm]
@[simp] theorem mutE_cel {m : Mth} {n : Nat} {ds : List D} : mutE m (.sh (.cel n)) ds = mutC m n ds := rfl
noncomputable def cvM (F : Cf) (fs : List Str) (es : Exs) : Option (Option Sl) → M R
  | some (some ⟨.sh, .fn f⟩) => fun s => if fs.contains f then bl (evAs F es) (fun rs => bl (slsM rs) (fun as => runF F f as) ⟨⟩) ⟨⟩ s else none
  | _ => fun _ => none
@[simp] theorem ev_callV {i : Nat} {fs : List Str} {es : Exs} : evE F (.callV i fs es) s = cvM F fs es s.e[i]? s := by
  show (match s.e[i]? with
    | some (some ⟨.sh, .fn f⟩) => if fs.contains f then bd (evAs F es) (fun rs => bd (args false rs) fun as => runF F f as) s else none
    | _ => none) = _
  unfold cvM
  rcases s.e[i]? with _ | _ | ⟨k, d⟩ <;> try rfl
  cases k <;> cases d <;> rfl
@[simp ↓] theorem bl_callV {i : Nat} {fs : List Str} {es : Exs} {f : R → M β} {u : Tag f} : bl (evE F (.callV i fs es)) f u s = blB (cvM F fs es s.e[i]? s) f ⟨⟩ := by
  rw [bl_s, ev_callV]
@[simp] theorem cvM_fn {fs : List Str} {es : Exs} {f : Str} (h : fs.contains f = true) : cvM F fs es (some (some ⟨.sh, .fn f⟩)) s = bl (evAs F es) (fun rs => bl (slsM rs) (fun as => runF F f as) ⟨⟩) ⟨⟩ s := if_pos h
@[simp] theorem ev_isx {a : Ex} {tab : List (Str × Bool)} : evE F (.isx a tab) = bl (evE F a) (fun x => bl (lkp x) (fun d => op? (isxD tab d)) ⟨⟩) ⟨⟩ := rfl
def isxO : Option Bool → Option R
  | some b => some (.sh (.bl b))
  | none => none
@[simp] theorem isxD_err {tab : List (Str × Bool)} {n : Str} : isxD tab (.err n) = isxO (tab.lookup n) := by
  show (match tab.lookup n with
    | some b => some (R.sh (.bl b))
    | none => none) = _
  cases tab.lookup n <;> rfl
@[simp] theorem isxO_s {b : Bool} : isxO (some b) = some (.sh (.bl b)) := rfl
@[simp] theorem ev_dnew : evE F .dnew = pu (.fr (.dct [])) := rfl
@[simp] theorem evAs_nil : evAs F .nil = pu [] := rfl
@[simp] theorem evAs_cons {a : Ex} {r : Exs} : evAs F (.cons a r) = bl (evE F a) (fun x => bl (evAs F r) (fun xs => pu (x :: xs)) ⟨⟩) ⟨⟩ := rfl
@[simp] theorem evO_none : evO F .none = pu none := rfl
@[simp] theorem evO_some {a : Ex} : evO F (.some a) = bl (evE F a) (fun x => bl (intO x) (fun i => pu (some i)) ⟨⟩) ⟨⟩ := rfl
@[simp] theorem evC_none : evC F .none = pu true := rfl
@[simp] theorem evC_some {a : Ex} : evC F (.some a) = bl (evE F a) (fun x => truM x) ⟨⟩ := rfl
@[simp] theorem truM_def {r : R} : truM r = bl (lkp r) (fun d => op? (truD d)) ⟨⟩ := rfl
@[simp] theorem intD_i {i : Int} : intD (.int i) = some i := rfl
@[simp] theorem intO_def {r : R} : intO r = bl (lkp r) (fun d => op? (intD d)) ⟨⟩ := rfl
/-! calls -/
def frR (fr : Bool) (d : D) : R := match fr with
    | true => .fr d
    | false => .sh d
@[simp] theorem frR_t {d : D} : frR true d = .fr d := rfl
@[simp] theorem frR_f {d : D} : frR false d = .sh d := rfl
def runB (o : Option CR) (g : R → M β) (_u : Tag g) (s : Sx) : Option (Out β) := match o with
  | none => none
  | some (.ok fr d c) => g (frR fr d) { s with c := c }
  | some (.exc n c) => some (.exc n { s with c := c })
@[simp ↓] theorem runB_ok {fr : Bool} {d : D} {c : List (List D)} {g : R → M β} {u : Tag g} : runB (some (.ok fr d c)) g u s = g (frR fr d) { s with c := c } := rfl
@[simp ↓] theorem runB_exc {n : Str} {c : List (List D)} {g : R → M β} {u : Tag g} : runB (some (.exc n c)) g u s = some (.exc n { s with c := c }) := rfl
@[simp] theorem runF_s {f : Str} {as : List Sl} : runF F f as s = runB (F f as s.c) pu ⟨⟩ s := by
  unfold runF runB
  rcases F f as s.c with _ | _ | _ <;> rfl
@[simp ↓] theorem bl_runF {f : Str} {as : List Sl} {g : R → M β} {u : Tag g} : bl (runF F f as) g u s = runB (F f as s.c) g ⟨⟩ s := by
  unfold bl bd runF runB
  rcases F f as s.c with _ | _ | _ <;> rfl
/-! statements -/
@[simp] theorem outS_ok {a : α} {f : α → Sx → Option Fl} : outS (some (.ok a s)) f = f a s := rfl
@[simp] theorem outS_exc {n : Str} {f : α → Sx → Option Fl} : outS (some (.exc n s)) f = some (.exc n s) := rfl
@[simp] theorem enxO_some : nxO (some s) = some (.nx s) := rfl
@[simp] theorem evSs_nil : evSs F .nil s = some (.nx s) := rfl
def sq (o : Option Fl) (f : Sx → Option Fl) : Option Fl := match o with
  | some (.nx s1) => f s1
  | x => x
@[simp] theorem sq_nx {f : Sx → Option Fl} : sq (some (.nx s)) f = f s := rfl
@[simp] theorem sq_ret {f : Sx → Option Fl} {r : R} : sq (some (.ret r s)) f = some (.ret r s) := rfl
@[simp] theorem sq_exc {f : Sx → Option Fl} {n : Str} : sq (some (.exc n s)) f = some (.exc n s) := rfl
@[simp] theorem sq_brk {f : Sx → Option Fl} : sq (some (.brk s)) f = some (.brk s) := rfl
@[simp] theorem sq_cnt {f : Sx → Option Fl} : sq (some (.cnt s)) f = some (.cnt s) := rfl
@[simp] theorem evSs_cons {a : St} {r : Sts} : evSs F (.cons a r) s = sq (evS F a s) (evSs F r) := by
  unfold sq
  show (match evS F a s with
    | some (.nx s1) => evSs F r s1
    | x => x) = _
  rfl
@[simp] theorem ev_set {i : Nat} {a : Ex} : evS F (.set i a) s = outS (evE F a s) fun r s1 => nxO (asgR i r s1) := rfl
def setTB (js : List Nat) (d : D) (s1 : Sx) : Option Fl := match d with
    | .tup ds => nxO (asgs js ds s1)
    | .lst ds => nxO (asgs js ds s1)
    | _ => none
@[simp] theorem setTB_s {js : List Nat} {ds : List D} : setTB js (.tup ds) s = nxO (asgs js ds s) := rfl
@[simp] theorem setTB_l {js : List Nat} {ds : List D} : setTB js (.lst ds) s = nxO (asgs js ds s) := rfl
@[simp] theorem ev_setT {js : List Nat} {a : Ex} : evS F (.setT js a) s = outS (bl (evE F a) (fun x => lkp x) ⟨⟩ s) fun d s1 => setTB js d s1 := by
  rfl
def asgO (o : Option Sx) (i : Nat) (d : D) : Option Fl := match o with
  | some s2 => nxO (asgD i .sh d s2)
  | none => none
@[simp] theorem asgO_s {i : Nat} {d : D} : asgO (some s) i d = nxO (asgD i .sh d s) := rfl
@[simp] theorem ev_setP {i j : Nat} {a b : Ex} : evS F (.setP i j a b) s = outS (bl (evE F a) (fun x => bl (evE F b) (fun y => bl (esc x) (fun d => bl (esc y) (fun d' => pu (d, d')) ⟨⟩) ⟨⟩) ⟨⟩) ⟨⟩ s) fun p s1 => asgO (asgD j .sh p.2 s1) i p.1 := by
  rfl
def setSX (i : Nat) (a b : Int) (ys : List D) (s : Sx) : Option (Option Sl) → Option Fl
  | some (some ⟨.ow, .lst xs⟩) => if (0 ≤ a ∧ a ≤ b ∧ b ≤ xs.length) ∧ xs.length + ys.length ≤ 16777216 then some (.nx { s with e := s.e.set i (some ⟨.ow, .lst (xs.take a.toNat ++ ys ++ xs.drop b.toNat)⟩) }) else none
  | _ => none
@[simp] theorem setSl_nm {i : Nat} {a b : Int} {ys : List D} {s : Sx} : setSl (.nm i) (some a) (some b) (.lst ys) s = setSX i a b ys s s.e[i]? := rfl
@[simp] theorem setSX_ow {i : Nat} {a b : Int} {ys xs : List D} {s : Sx} : setSX i a b ys s (some (some ⟨.ow, .lst xs⟩)) = if (0 ≤ a ∧ a ≤ b ∧ b ≤ xs.length) ∧ xs.length + ys.length ≤ 16777216 then some (.nx { s with e := s.e.set i (some ⟨.ow, .lst (xs.take a.toNat ++ ys ++ xs.drop b.toNat)⟩) }) else none := rfl
@[simp] theorem ev_setS {o a : Ex} {lo hi : Exo} : evS F (.setS o lo hi a) s = outS (bl (evE F a) (fun x => esc x) ⟨⟩ s) fun y s1 => outS (bl (evE F o) (fun x => bl (evO F lo) (fun a => bl (evO F hi) (fun b => pu (x, a, b)) ⟨⟩) ⟨⟩) ⟨⟩ s1) fun p s2 => setSl p.1 p.2.1 p.2.2 y s2 := by
  rfl
@[simp] theorem ev_setI {o i a : Ex} : evS F (.setI o i a) s = outS (bl (evE F a) (fun x => esc x) ⟨⟩ s) fun y s1 => outS (bl (evE F o) (fun x => bl (evE F i) (fun z => bl (lkp z) (fun k => pu (x, k)) ⟨⟩) ⟨⟩) ⟨⟩ s1) fun p s2 => setR p.1 p.2 y s2 := rfl
def stL (o : Option Nat) (f : Nat → Sx) : Option Fl := match o with
  | some j => some (.nx (f j))
  | none => none
@[simp] theorem stL_s {j : Nat} {f : Nat → Sx} : stL (some j) f = some (.nx (f j)) := rfl
def stK (k : D) (f : Int → Option Fl) : Option Fl := match intD k with
  | some k => f k
  | none => none
@[simp] theorem stK_s {k : Int} {f : Int → Option Fl} : stK (.int k) f = f k := rfl
def stD (k : Option Key) (v : Option V) (f : Key → V → Option Fl) : Option Fl := match k, v with
  | some k, some v => f k v
  | _, _ => none
@[simp] theorem stD_s {k : Key} {v : V} {f : Key → V → Option Fl} : stD (some k) (some v) f = f k v := rfl
def setS (i : Nat) (k y : D) (o : Option (Option Sl)) (s : Sx) : Option Fl := match o with
  | some (some ⟨.ow, .lst xs⟩) => stK k fun k => stL (ixN xs.length k) fun j => { s with e := s.e.set i (some ⟨.ow, .lst (xs.set j y)⟩) }
  | some (some ⟨.ow, .dct kvs⟩) => stD (keyD k) (dV y) fun k v => if kvs.length < 16777216 then some (.nx { s with e := s.e.set i (some ⟨.ow, .dct (putK kvs k v)⟩) }) else none
  | some (some ⟨.sh, .cel n⟩) => setC n k y s
  | _ => none
@[simp] theorem setR_nm {i : Nat} {k y : D} : setR (.nm i) k y s = setS i k y s.e[i]? s := by
  show setL i k y s = _
  unfold setL setS stK stL stD
  rcases s.e[i]? with _ | _ | ⟨κ, d⟩ <;> rfl
@[simp] theorem setS_lst {i : Nat} {k y : D} {xs : List D} : setS i k y (some (some ⟨.ow, .lst xs⟩)) s = stK k fun k => stL (ixN xs.length k) fun j => { s with e := s.e.set i (some ⟨.ow, .lst (xs.set j y)⟩) } := rfl
@[simp] theorem setS_dct {i : Nat} {k y : D} {kvs : List (Key × V)} : setS i k y (some (some ⟨.ow, .dct kvs⟩)) s = stD (keyD k) (dV y) fun k v => if kvs.length < 16777216 then some (.nx { s with e := s.e.set i (some ⟨.ow, .dct (putK kvs k v)⟩) }) else none := rfl
@[simp] theorem setS_cel {i n : Nat} {k y : D} : setS i k y (some (some ⟨.sh, .cel n⟩)) s = setC n k y s := rfl
@[simp] theorem setR_cel {n : Nat} {k y : D} : setR (.sh (.cel n)) k y = setC n k y := rfl
def setCo (o : Option (List D)) (n : Nat) (k : Int) (y : D) (s : Sx) : Option Fl := match o with
  | some xs => stL (ixN xs.length k) fun j => { s with c := s.c.set n (xs.set j y) }
  | none => none
@[simp] theorem setCo_s {xs : List D} {n : Nat} {k : Int} {y : D} : setCo (some xs) n k y s = stL (ixN xs.length k) fun j => { s with c := s.c.set n (xs.set j y) } := rfl
@[simp] theorem setC_s {n : Nat} {k : Int} {y : D} : setC n (.int k) y s = setCo s.c[n]? n k y s := by
  unfold setC setCo intD stL
  cases s.c[n]? with
  | none => rfl
  | some xs => first | (dsimp only; done) | (dsimp only; cases ixN xs.length k <;> rfl)
@[simp] theorem keyD_int {i : Int} : keyD (.int i) = some (.inl i) := rfl
@[simp] theorem dV_int {i : Int} : dV (.int i) = some (.int i) := rfl
@[simp] theorem dV_bl {i : Bool} : dV (.bl i) = some (.bl i) := rfl
@[simp] theorem vD_int {i : Int} : vD (.int i) = some (.int i) := rfl
@[simp] theorem vD_bl {i : Bool} : vD (.bl i) = some (.bl i) := rfl
noncomputable def augS (i : Nat) (b : Ex) (o : Bop) (j : Int) (F : Cf) : Option (Option Sl) → Sx → Option Fl
  | some (some ⟨.ow, .dct _⟩) => fun s => outS (bl (evE F b) (fun x => lkp x) ⟨⟩ s) fun k s1 => augL i k o j s1
  | _ => fun _ => none
@[simp] theorem ev_augI {i : Nat} {b : Ex} {o : Bop} {j : Int} : evS F (.augI i b o j) s = augS i b o j F s.e[i]? s := by
  show (match s.e[i]? with
    | some (some ⟨.ow, .dct _⟩) => outS (bd (evE F b) lkp s) fun k s1 => augL i k o j s1
    | _ => none) = _
  unfold augS
  rcases s.e[i]? with _ | _ | ⟨κ, d⟩ <;> try rfl
  cases κ <;> cases d <;> rfl
@[simp] theorem augS_dct {i : Nat} {b : Ex} {o : Bop} {j : Int} {kvs : List (Key × V)} : augS i b o j F (some (some ⟨.ow, .dct kvs⟩)) s = outS (bl (evE F b) (fun x => lkp x) ⟨⟩ s) fun k s1 => augL i k o j s1 := rfl
def augV (v : Option V) (f : Int → Option Fl) : Option Fl := match v with
  | some (.int x) => f x
  | _ => none
@[simp] theorem augV_s {x : Int} {f : Int → Option Fl} : augV (some (.int x)) f = f x := rfl
def augZ (z : Option Int) (f : Int → Option Fl) : Option Fl := match z with
  | some x => f x
  | none => none
@[simp] theorem augZ_s {x : Int} {f : Int → Option Fl} : augZ (some x) f = f x := rfl
def augK (k : Option Key) (f : Key → Option Fl) : Option Fl := match k with
  | some x => f x
  | none => none
@[simp] theorem augK_s {x : Key} {f : Key → Option Fl} : augK (some x) f = f x := rfl
def augT (i : Nat) (k : D) (o : Bop) (y : Int) (sl : Option (Option Sl)) (s : Sx) : Option Fl := match sl with
  | some (some ⟨.ow, .dct kvs⟩) => augK (keyD k) fun k => augV (valV kvs k) fun x => augZ (augD o x y) fun z => if kvs.length < 16777216 then some (.nx { s with e := s.e.set i (some ⟨.ow, .dct (putK kvs k (.int z))⟩) }) else none
  | _ => none
@[simp] theorem augL_s {i : Nat} {k : D} {o : Bop} {y : Int} : augL i k o y s = augT i k o y s.e[i]? s := by
  unfold augL augT augK augV augZ
  rcases s.e[i]? with _ | _ | ⟨κ, d⟩ <;> rfl
@[simp] theorem augT_dct {i : Nat} {k : D} {o : Bop} {y : Int} {kvs : List (Key × V)} : augT i k o y (some (some ⟨.ow, .dct kvs⟩)) s = augK (keyD k) fun k => augV (valV kvs k) fun x => augZ (augD o x y) fun z => if kvs.length < 16777216 then some (.nx { s with e := s.e.set i (some ⟨.ow, .dct (putK kvs k (.int z))⟩) }) else none := rfl
def augI (sl : Option (Option Sl)) (i : Nat) (o : Bop) (m : M Int) (s : Sx) : Option Fl := match sl with
    | some (some ⟨.sh, .int x⟩) => outS (m s) fun y s1 => augZ (augD o x y) fun z => nxO (asgD i .sh (.int z) s1)
    | _ => none
@[simp] theorem augI_s {x : Int} {i : Nat} {o : Bop} {m : M Int} : augI (some (some ⟨.sh, .int x⟩)) i o m s = outS (m s) fun y s1 => augZ (augD o x y) fun z => nxO (asgD i .sh (.int z) s1) := rfl
@[simp] theorem ev_aug {i : Nat} {o : Bop} {a : Ex} : evS F (.aug i o a) s = augI s.e[i]? i o (bl (evE F a) (fun x => intO x) ⟨⟩) s := by
  show (match s.e[i]? with
    | some (some ⟨.sh, .int x⟩) => outS (bd (evE F a) intO s) fun y s1 => match augD o x y with
      | some z => nxO (asgD i .sh (.int z) s1)
      | none => none
    | _ => none) = _
  unfold augI augZ
  rcases s.e[i]? with _ | _ | ⟨κ, d⟩ <;> rfl
@[simp] theorem augD_add {x y : Int} : augD .add x y = some (x + y) := rfl
@[simp] theorem augD_sub {x y : Int} : augD .sub x y = some (x - y) := rfl
@[simp] theorem ev_exs {a : Ex} : evS F (.ex a) s = outS (evE F a s) fun _ s1 => some (.nx s1) := rfl
@[simp] theorem ev_ret {a : Ex} : evS F (.ret a) s = outS (evE F a s) fun r s1 => some (.ret r s1) := rfl
@[simp] theorem ev_retN : evS F .retN s = some (.ret (.sh .non) s) := rfl
def stB (z : Bool) (f g : Sx → Option Fl) (s : Sx) : Option Fl := match z with
    | true => f s
    | false => g s
@[simp ↓] theorem stB_t {f g : Sx → Option Fl} : stB true f g s = f s := rfl
@[simp ↓] theorem stB_f {f g : Sx → Option Fl} : stB false f g s = g s := rfl
@[simp] theorem ev_ifs {t : Ex} {a b : Sts} : evS F (.ifs t a b) s = outS (bl (evE F t) (fun x => truM x) ⟨⟩ s) fun z s1 => stB z (evSs F a) (evSs F b) s1 := by
  rfl
theorem ev_whl {t : Ex} {b : Sts} : evS F (.whl t b) s = whlL (bl (evE F t) (fun x => truM x) ⟨⟩) (evSs F b) wf s := rfl
def fm (g : Sx → Sx) (o : Option Fl) : Option Fl := match o with
  | some f => some (f.map g)
  | none => none
@[simp] theorem fm_some {g : Sx → Sx} {f : Fl} : fm g (some f) = some (f.map g) := rfl
@[simp] theorem fm_nx {g : Sx → Sx} : Fl.map g (.nx s) = .nx (g s) := rfl
@[simp] theorem fm_ret {g : Sx → Sx} {r : R} : Fl.map g (.ret r s) = .ret r (g s) := rfl
@[simp] theorem fm_exc {g : Sx → Sx} {n : Str} : Fl.map g (.exc n s) = .exc n (g s) := rfl
@[simp] theorem ev_for {t : Tg} {src : Src} {b : Sts} : evS F (.for t src b) s = outS (evSrc F src s) fun p s1 => fm (unlock p.2) (forL t (gdB p.2 p.1 (evSs F b)) p.1 (lock p.2 s1)) := rfl
theorem gdOk_low {i : Nat} {ds : List D} (h : i < 1000000) : GdOk [i] ds s := fun n hn => by
  have := List.mem_singleton.mp hn
  omega
theorem gdB_go {ls : List Nat} {ds : List D} {b : Sx → Option Fl} (h : ∀ s, GdOk ls ds s) : gdB ls ds b = b := by
  funext s
  unfold gdB
  cases hb : b s with
  | none => rfl
  | some f => cases f <;> simp [h]
@[simp] theorem gdB_nil {ds : List D} {b : Sx → Option Fl} : gdB [] ds b = b := gdB_go fun s n h => nomatch h
theorem gdB_low {i : Nat} {ds : List D} {b : Sx → Option Fl} (h : i < 1000000) : gdB [i] ds b = b := gdB_go fun s => gdOk_low h
def gdC (n : Nat) (ds : List D) (b : Sx → Option Fl) : Sx → Option Fl := b
noncomputable def gdQ (n : Nat) (ds : List D) (b : Sx → Option Fl) : Sx → Option Fl := gdB [1000000 + n] ds b
@[simp] theorem gdB_one {i : Nat} {ds : List D} {b : Sx → Option Fl} : gdB [i] ds b = if i < 1000000 then b else gdQ (i - 1000000) ds b := by
  split
  · rename_i h
    exact gdB_low h
  · rename_i h
    unfold gdQ
    rw [show 1000000 + (i - 1000000) = i by omega]
noncomputable def gdK (o : Option (List D)) (ds : List D) (f : Option Fl) : Option Fl := open Classical in if o = some ds then f else none
@[simp] theorem gdK_s {ds : List D} {f : Option Fl} : gdK (some ds) ds f = f := if_pos rfl
noncomputable def gdF (n : Nat) (ds : List D) : Option Fl → Option Fl
  | some (.nx s) => gdK s.c[n]? ds (some (.nx s))
  | some (.cnt s) => gdK s.c[n]? ds (some (.cnt s))
  | o => o
theorem gdOk_c {n : Nat} {ds : List D} : GdOk [1000000 + n] ds s ↔ s.c[n]? = some ds := ⟨fun h => h n (List.mem_singleton.mpr rfl), fun h m hm => by
  have := List.mem_singleton.mp hm
  rw [show m = n by omega]
  exact h⟩
@[simp] theorem gdQ_s {n : Nat} {ds : List D} {b : Sx → Option Fl} : gdQ n ds b s = gdF n ds (b s) := by
  unfold gdQ gdB gdF gdK
  cases b s with
  | none => rfl
  | some f =>
    cases f with
    | nx s' =>
      dsimp only
      by_cases h : s'.c[n]? = some ds
      · rw [if_pos h, if_pos (gdOk_c.mpr h)]
      · rw [if_neg h, if_neg (fun q => h (gdOk_c.mp q))]
    | cnt s' =>
      dsimp only
      by_cases h : s'.c[n]? = some ds
      · rw [if_pos h, if_pos (gdOk_c.mpr h)]
      · rw [if_neg h, if_neg (fun q => h (gdOk_c.mp q))]
    | _ => rfl
@[simp] theorem gdF_nx {n : Nat} {ds : List D} : gdF n ds (some (.nx s)) = gdK s.c[n]? ds (some (.nx s)) := rfl
@[simp] theorem gdF_cnt {n : Nat} {ds : List D} : gdF n ds (some (.cnt s)) = gdK s.c[n]? ds (some (.cnt s)) := rfl
@[simp] theorem gdF_brk {n : Nat} {ds : List D} : gdF n ds (some (.brk s)) = some (.brk s) := rfl
@[simp] theorem gdF_ret {n : Nat} {ds : List D} {r : R} : gdF n ds (some (.ret r s)) = some (.ret r s) := rfl
@[simp] theorem gdF_exc {n : Nat} {ds : List D} {x : Str} : gdF n ds (some (.exc x s)) = some (.exc x s) := rfl
@[simp] theorem ev_rai {n : Str} : evS F (.rai n) s = some (.exc n s) := rfl
@[simp] theorem ev_pas : evS F .pas s = some (.nx s) := rfl
@[simp] theorem ev_brk : evS F .brk s = some (.brk s) := rfl
@[simp] theorem ev_cnt : evS F .cnt s = some (.cnt s) := rfl
def tryO (x : Nat) (h : List (Str × List Us)) (o : Option Fl) : Option Fl := match o with
    | some (.exc n s1) => match h.lookup n with
      | some us => match s1.e[x]?, uSs us s1 with
        | some none, some s2 => match s2.e[x]? with
          | some none => some (.nx s2)
          | _ => none
        | _, _ => none
      | none => none
    | r => r
def tryL (us : Option (List Us)) (x : Nat) (s1 : Sx) : Option Fl := match us with
  | some us => match s1.e[x]?, uSs us s1 with
        | some none, some s2 => match s2.e[x]? with
          | some none => some (.nx s2)
          | _ => none
        | _, _ => none
  | none => none
def tryM (a : Option (Option Sl)) (b : Option Sx) (x : Nat) : Option Fl := match a, b with
        | some none, some s2 => match s2.e[x]? with
          | some none => some (.nx s2)
          | _ => none
        | _, _ => none
def tryN (a : Option (Option Sl)) (s2 : Sx) : Option Fl := match a with
  | some none => some (.nx s2)
  | _ => none
@[simp] theorem tryL_s {us : List Us} {x : Nat} : tryL (some us) x s = tryM s.e[x]? (uSs us s) x := rfl
@[simp] theorem tryM_s {x : Nat} : tryM (some none) (some s) x = tryN s.e[x]? s := rfl
@[simp] theorem tryN_s : tryN (some none) s = some (.nx s) := rfl
@[simp] theorem ev_tryx {b : Sts} {x : Nat} {h : List (Str × List Us)} : evS F (.tryx b x h) s = tryO x h (evSs F b s) := rfl
@[simp] theorem tryO_nx {x : Nat} {h : List (Str × List Us)} : tryO x h (some (.nx s)) = some (.nx s) := rfl
@[simp] theorem tryO_brk {x : Nat} {h : List (Str × List Us)} : tryO x h (some (.brk s)) = some (.brk s) := rfl
@[simp] theorem tryO_cnt {x : Nat} {h : List (Str × List Us)} : tryO x h (some (.cnt s)) = some (.cnt s) := rfl
@[simp] theorem tryO_ret {x : Nat} {h : List (Str × List Us)} {r : R} : tryO x h (some (.ret r s)) = some (.ret r s) := rfl
@[simp] theorem tryO_exc {x : Nat} {h : List (Str × List Us)} {n : Str} : tryO x h (some (.exc n s)) = tryL (h.lookup n) x s := rfl
def tryKC (o : Option (Option Sl)) (i : Nat) (n : Str) (s1 : Sx) : Option Fl := match o with
  | some none => nxO (asgD i .sh (.err n) s1)
  | _ => none
@[simp] theorem tryKC_s {i : Nat} {n : Str} : tryKC (some none) i n s = nxO (asgD i .sh (.err n) s) := rfl
def tryKB (z : Bool) (x i : Nat) (n : Str) (s1 : Sx) : Option Fl := match z with
  | true => tryKC s1.e[x]? i n s1
  | false => none
@[simp] theorem tryKB_s {x i : Nat} {n : Str} : tryKB true x i n s = tryKC s.e[x]? i n s := rfl
def tryK (x i : Nat) (ns : List Str) (o : Option Fl) : Option Fl := match o with
  | some (.exc n s1) => tryKB (ns.contains n) x i n s1
  | r => r
@[simp] theorem ev_tryb {b : Sts} {x i : Nat} {ns : List Str} : evS F (.tryb b x i ns) s = tryK x i ns (evSs F b s) := by
  show (match evSs F b s with
    | some (.exc n s1) => if ns.contains n then match s1.e[x]? with
      | some none => nxO (asgD i .sh (.err n) s1)
      | _ => none else none
    | r => r) = _
  unfold tryK tryKB tryKC
  cases evSs F b s with
  | none => rfl
  | some f =>
    cases f with
    | exc n s1 =>
      dsimp only
      cases ns.contains n <;> rfl
    | _ => rfl
@[simp] theorem tryK_nx {x i : Nat} {ns : List Str} : tryK x i ns (some (.nx s)) = some (.nx s) := rfl
@[simp] theorem tryK_ret {x i : Nat} {ns : List Str} {r : R} : tryK x i ns (some (.ret r s)) = some (.ret r s) := rfl
@[simp] theorem tryK_exc {x i : Nat} {ns : List Str} {n : Str} : tryK x i ns (some (.exc n s)) = tryKB (ns.contains n) x i n s := rfl
@[simp] theorem uSs_nil : uSs [] s = some s := rfl
def uSo (o : Option Sx) (us : List Us) : Option Sx := match o with
  | some s' => uSs us s'
  | none => none
@[simp] theorem uSo_s {us : List Us} : uSo (some s) us = uSs us s := rfl
@[simp] theorem uSs_cons {u : Us} {us : List Us} : uSs (u :: us) s = uSo (uS u s) us := rfl
@[simp] theorem uS_setL {i : Nat} {bs : List Bool} : uS (.setL i bs) s = asgD i .ow (.lst (bs.map D.bl)) s := rfl
def uSa (o : Option (Option Sl)) (i : Nat) (bs : List Bool) (s : Sx) : Option Sx := match o with
    | some (some ⟨.ow, .lst xs⟩) => if xs.length + bs.length ≤ 16777216 then asgD i .ow (.lst (xs ++ bs.map D.bl)) s else none
    | _ => none
@[simp] theorem uSa_s {xs : List D} {i : Nat} {bs : List Bool} : uSa (some (some ⟨.ow, .lst xs⟩)) i bs s = if xs.length + bs.length ≤ 16777216 then asgD i .ow (.lst (xs ++ bs.map D.bl)) s else none := rfl
@[simp] theorem uS_addL' {i : Nat} {bs : List Bool} : uS (.addL i bs) s = uSa s.e[i]? i bs s := by
  show (match s.e[i]? with
    | some (some ⟨.ow, .lst xs⟩) => _
    | _ => none) = _
  rfl
def uSb (o : Option (Option Sl)) (i : Nat) (b : Bool) (s : Sx) : Option Sx := match o with
    | some (some ⟨.ow, .lst xs⟩) => if xs.length < 16777216 then some { s with e := s.e.set i (some ⟨.ow, .lst (xs ++ [.bl b])⟩) } else none
    | _ => none
@[simp] theorem uSb_s {xs : List D} {i : Nat} {b : Bool} : uSb (some (some ⟨.ow, .lst xs⟩)) i b s = if xs.length < 16777216 then some { s with e := s.e.set i (some ⟨.ow, .lst (xs ++ [.bl b])⟩) } else none := rfl
@[simp] theorem uS_app' {i : Nat} {b : Bool} : uS (.app i b) s = uSb s.e[i]? i b s := by
  show (match s.e[i]? with
    | some (some ⟨.ow, .lst xs⟩) => _
    | _ => none) = _
  rfl
@[simp] theorem uS_non {i : Nat} : uS (.non i) s = asgD i .sh .non s := rfl
@[simp] theorem forL_nil {t : Tg} {body : Sx → Option Fl} : forL t body [] s = some (.nx s) := rfl
def fo (o : Option Fl) (f : Sx → Option Fl) : Option Fl := match o with
  | some (.nx s2) => f s2
  | some (.cnt s2) => f s2
  | some (.brk s2) => some (.nx s2)
  | some (.ret r s2) => some (.ret r s2)
  | some (.exc n s2) => some (.exc n s2)
  | none => none
@[simp] theorem fo_nx {f : Sx → Option Fl} : fo (some (.nx s)) f = f s := rfl
@[simp] theorem fo_cnt {f : Sx → Option Fl} : fo (some (.cnt s)) f = f s := rfl
@[simp] theorem fo_brk {f : Sx → Option Fl} : fo (some (.brk s)) f = some (.nx s) := rfl
@[simp] theorem fo_ret {f : Sx → Option Fl} {r : R} : fo (some (.ret r s)) f = some (.ret r s) := rfl
@[simp] theorem fo_exc {f : Sx → Option Fl} {n : Str} : fo (some (.exc n s)) f = some (.exc n s) := rfl
def turnB (o : Option Sx) (body : Sx → Option Fl) : Option Fl := match o with
  | some s1 => body s1
  | none => none
@[simp] theorem turnB_s {body : Sx → Option Fl} : turnB (some s) body = body s := rfl
theorem forL_cons {t : Tg} {body : Sx → Option Fl} {d : D} {ds : List D} : forL t body (d :: ds) s = match asgT t d s with
  | some s1 => fo (body s1) (forL t body ds)
  | none => none := by
  show (match asgT t d s with
    | none => none
    | some s1 => match body s1 with
      | some (.nx s2) => forL t body ds s2
      | some (.cnt s2) => forL t body ds s2
      | some (.brk s2) => some (.nx s2)
      | some (.ret r s2) => some (.ret r s2)
      | some (.exc n s2) => some (.exc n s2)
      | none => none) = _
  unfold fo
  cases asgT t d s with
  | none => rfl
  | some s1 =>
    rcases body s1 with _ | o
    · rfl
    · cases o <;> rfl
theorem forL_cons' {t : Tg} {body : Sx → Option Fl} {d : D} {ds : List D} : forL t body (d :: ds) s = fo (turnB (asgT t d s) body) (forL t body ds) := by
  rw [forL_cons]
  cases asgT t d s <;> rfl
theorem whlL_succ {test : M Bool} {body : Sx → Option Fl} {n : Nat} : whlL test body (n + 1) s = match test s with
    | some (.ok true s1) => fo (body s1) (whlL test body n)
    | some (.ok false s1) => some (.nx s1)
    | some (.exc n s1) => some (.exc n s1)
    | none => none := by
  show (match test s with
    | some (.ok true s1) => match body s1 with
      | some (.nx s2) => whlL test body n s2
      | some (.cnt s2) => whlL test body n s2
      | some (.brk s2) => some (.nx s2)
      | some (.ret r s2) => some (.ret r s2)
      | some (.exc n s2) => some (.exc n s2)
      | none => none
    | some (.ok false s1) => some (.nx s1)
    | some (.exc n s1) => some (.exc n s1)
    | none => none) = _
  unfold fo
  rcases test s with _ | ⟨z, s1⟩ | ⟨n, s1⟩
  · rfl
  · cases z with
    | false => rfl
    | true =>
      rcases body s1 with _ | o
      · rfl
      · cases o <;> rfl
  · rfl
@[simp] theorem asgT_nm {i : Nat} {d : D} : asgT (.nm i) d s = asgD i .sh d s := rfl
@[simp] theorem asgT_tp {is : List Nat} {ds : List D} : asgT (.tp is) (.tup ds) s = asgs is ds s := rfl
@[simp] theorem asgs_nil : asgs [] [] s = some s := rfl
def asgK (o : Option Sx) (is : List Nat) (ds : List D) : Option Sx := match o with
    | some s' => asgs is ds s'
    | none => none
@[simp] theorem asgK_s {is : List Nat} {ds : List D} : asgK (some s) is ds = asgs is ds s := rfl
@[simp] theorem asgs_cons {i : Nat} {is : List Nat} {d : D} {ds : List D} : asgs (i :: is) (d :: ds) s = asgK (asgD i .sh d s) is ds := rfl
@[simp] theorem asgR_sh {i : Nat} {d : D} : asgR i (.sh d) s = asgD i .sh d s := rfl
@[simp] theorem asgR_fr {i : Nat} {d : D} : asgR i (.fr d) s = asgD i .ow d s := rfl
def asgE (o : Option (Out D)) (i : Nat) : Option Sx := match o with
    | some (.ok d s') => asgD i .sh d s'
    | _ => none
@[simp] theorem asgE_s {d : D} {i : Nat} : asgE (some (.ok d s)) i = asgD i .sh d s := rfl
@[simp] theorem asgR_nm {i j : Nat} : asgR i (.nm j) s = asgE (esc (.nm j) s) i := by
  show (match esc (.nm j) s with
    | some (.ok d s') => asgD i .sh d s'
    | _ => none) = _
  unfold asgE
  rcases esc (.nm j) s with _ | _ | _ <;> rfl
@[simp] theorem asgD_s {i : Nat} {k : Kd} {d : D} : asgD i k d s = if locked s.e[i]? then none else some { s with e := s.e.set i (some ⟨k, d⟩) } := rfl
@[simp] theorem locked_none : locked (some none) = false := rfl
@[simp] theorem locked_sh {d : D} : locked (some (some ⟨.sh, d⟩)) = false := rfl
@[simp] theorem locked_ow {d : D} : locked (some (some ⟨.ow, d⟩)) = false := rfl
@[simp] theorem locked_lk {d : D} : locked (some (some ⟨.lk, d⟩)) = true := rfl
@[simp] theorem evSrc_seq {a : Ex} : evSrc F (.seq a) = bl (evE F a) (fun x => seqR x) ⟨⟩ := rfl
def noLk (l : List D) : List D × List Nat := (l, [])
@[simp] theorem noLk_s {l : List D} : noLk l = (l, []) := rfl
@[simp] theorem evSrc_rng {es : Exs} : evSrc F (.rng es) = bl (evAs F es) (fun rs => bl (looks rs) (fun ds => op? ((rngD ds).map noLk)) ⟨⟩) ⟨⟩ := rfl
@[simp] theorem seqR_lst {ds : List D} : seqR (.sh (.lst ds)) s = some (.ok (ds, []) s) := rfl
@[simp] theorem seqR_fl {ds : List D} : seqR (.sh (.fl ds)) s = some (.ok (ds, []) s) := rfl
@[simp] theorem seqR_tup {ds : List D} : seqR (.sh (.tup ds)) s = some (.ok (ds, []) s) := rfl
@[simp] theorem seqR_frl {ds : List D} : seqR (.fr (.lst ds)) s = some (.ok (ds, []) s) := rfl
def celW (o : Option (List D)) (n : Nat) (s : Sx) : Option (Out (List D × List Nat)) := match o with
  | some ds => some (.ok (ds, [1000000 + n]) s)
  | none => none
@[simp] theorem celW_s {ds : List D} {n : Nat} : celW (some ds) n s = some (.ok (ds, [1000000 + n]) s) := rfl
def itsW (o : Option (List D)) (l : List Nat) (s : Sx) : Option (Out (List D × List Nat)) := match o with
  | some ds => some (.ok (ds, l) s)
  | none => none
@[simp] theorem itsW_s {ds : List D} {l : List Nat} : itsW (some ds) l s = some (.ok (ds, l) s) := rfl
@[simp] theorem itsOf_lst {ds : List D} : itsOf (.lst ds) = some ds := rfl
@[simp] theorem itsOf_fl {ds : List D} : itsOf (.fl ds) = some ds := rfl
@[simp] theorem itsOf_tup {ds : List D} : itsOf (.tup ds) = some ds := rfl
@[simp] theorem itsOf_str {x : Str} : itsOf (.str x) = some (x.cps.toList.map fun c => .str ⟨#[c]⟩) := rfl
def seqS (i : Nat) : Option (Option Sl) → M (List D × List Nat)
  | some (some ⟨_, .cel n⟩) => fun s => celW s.c[n]? n s
  | some (some ⟨k, d⟩) => fun s => if i < 1000000 then itsW (itsOf d) (if k = .ow then [i] else []) s else none
  | _ => fun _ => none
@[simp] theorem seqR_str {x : Str} : seqR (.sh (.str x)) s = some (.ok (x.cps.toList.map fun c => .str ⟨#[c]⟩, []) s) := rfl
@[simp] theorem seqR_cel {n : Nat} : seqR (.sh (.cel n)) s = celW s.c[n]? n s := rfl
@[simp] theorem seqR_nm {i : Nat} : seqR (.nm i) s = seqS i s.e[i]? s := by
  rcases h : s.e[i]? with _ | _ | ⟨k, d⟩
  · unfold seqR plainR look celR
    simp [h, seqS]
  · unfold seqR plainR look celR
    simp [h, seqS]
  · cases d <;> simp [seqR, plainR, look, lkOf, celR, h, seqS, der, itsW, celW] <;> rfl
@[simp] theorem seqS_lst {i : Nat} {k : Kd} {ds : List D} : seqS i (some (some ⟨k, .lst ds⟩)) s = if i < 1000000 then some (.ok (ds, if k = .ow then [i] else []) s) else none := rfl
@[simp] theorem seqS_fl {i : Nat} {k : Kd} {ds : List D} : seqS i (some (some ⟨k, .fl ds⟩)) s = if i < 1000000 then some (.ok (ds, if k = .ow then [i] else []) s) else none := rfl
@[simp] theorem seqS_tup {i : Nat} {k : Kd} {ds : List D} : seqS i (some (some ⟨k, .tup ds⟩)) s = if i < 1000000 then some (.ok (ds, if k = .ow then [i] else []) s) else none := rfl
@[simp] theorem seqS_str {i : Nat} {k : Kd} {x : Str} : seqS i (some (some ⟨k, .str x⟩)) s = if i < 1000000 then some (.ok (x.cps.toList.map fun c => .str ⟨#[c]⟩, if k = .ow then [i] else []) s) else none := rfl
@[simp] theorem seqS_cel {i n : Nat} {k : Kd} : seqS i (some (some ⟨k, .cel n⟩)) s = celW s.c[n]? n s := rfl
def enuM (r : R) : M (List D × List Nat) := bd (lkp r) fun d => fun s => if plainR s r then match lstOf d with
    | some ds => some (.ok (enumD 0 ds, lkOf s r) s)
    | none => none else none
@[simp] theorem evSrc_enu {a : Ex} : evSrc F (.enu a) = bl (evE F a) (fun x => enuM x) ⟨⟩ := rfl
@[simp] theorem enuM_lst {ds : List D} : enuM (.sh (.lst ds)) s = some (.ok (enumD 0 ds, []) s) := rfl
@[simp] theorem enuM_frl {ds : List D} : enuM (.fr (.lst ds)) s = some (.ok (enumD 0 ds, []) s) := rfl
def enuS (i : Nat) : Option (Option Sl) → M (List D × List Nat)
  | some (some ⟨_, .cel _⟩) => fun _ => none
  | some (some ⟨k, d⟩) => fun s => if i < 1000000 then match lstOf d with
      | some ds => some (.ok (enumD 0 ds, if k = .ow then [i] else []) s)
      | none => none else none
  | _ => fun _ => none
@[simp] theorem enuM_nm {i : Nat} : enuM (.nm i) s = enuS i s.e[i]? s := by
  have hb : ∀ (f : D → M (List D × List Nat)), bd (lkp (.nm i)) f s = vS s.e[i]? (fun sl => bl (derM sl.d) f ⟨⟩) ⟨⟩ s := fun f => lkp_nm (u := ⟨⟩)
  rcases h : s.e[i]? with _ | _ | ⟨k, d⟩
  · simp [enuM, hb, h, enuS, vS]
  · simp [enuM, hb, h, enuS, vS]
  · cases d <;> simp [enuM, hb, plainR, lkOf, h, enuS, lstOf]
    rename_i n
    cases s.c[n]? with
    | none => rfl
    | some v => simp [celB, h]
@[simp] theorem enuS_lst {i : Nat} {k : Kd} {ds : List D} : enuS i (some (some ⟨k, .lst ds⟩)) s = if i < 1000000 then some (.ok (enumD 0 ds, if k = .ow then [i] else []) s) else none := rfl
@[simp] theorem enuS_fl {i : Nat} {k : Kd} {ds : List D} : enuS i (some (some ⟨k, .fl ds⟩)) s = if i < 1000000 then some (.ok (enumD 0 ds, if k = .ow then [i] else []) s) else none := rfl
@[simp] theorem lock_nil : lock [] s = s := rfl
@[simp] theorem unlock_nil : unlock [] s = s := rfl
@[simp] theorem lock_cons {i : Nat} {is : List Nat} : lock (i :: is) s = if i < 1000000 then setK i .lk (lock is s) else lock is s := rfl
@[simp] theorem unlock_cons {i : Nat} {is : List Nat} : unlock (i :: is) s = unlock is (if i < 1000000 then setK i .ow s else s) := rfl
def setKo (o : Option (Option Sl)) (i : Nat) (k : Kd) (s : Sx) : Sx := match o with
  | some (some sl) => { s with e := s.e.set i (some ⟨k, sl.d⟩) }
  | _ => s
@[simp] theorem setKo_s {sl : Sl} {i : Nat} {k : Kd} : setKo (some (some sl)) i k s = { s with e := s.e.set i (some ⟨k, sl.d⟩) } := rfl
@[simp] theorem setK_s {i : Nat} {k : Kd} : setK i k s = setKo s.e[i]? i k s := rfl
@[simp] theorem fin_nx : fin (some (.nx s)) = some (.ok false .non s.c) := rfl
@[simp] theorem fin_sh {d : D} : fin (some (.ret (.sh d) s)) = some (.ok false d s.c) := rfl
@[simp] theorem fin_fr {d : D} : fin (some (.ret (.fr d) s)) = some (.ok true d s.c) := rfl
def finS (o : Option (Option Sl)) (c : List (List D)) : Option CR := match o with
    | some (some ⟨.ow, d⟩) => some (.ok true d c)
    | some (some ⟨.sh, d⟩) => some (.ok false d c)
    | _ => none
@[simp] theorem finS_ow {d : D} : finS (some (some ⟨.ow, d⟩)) c = some (.ok true d c) := rfl
@[simp] theorem finS_sh {d : D} : finS (some (some ⟨.sh, d⟩)) c = some (.ok false d c) := rfl
@[simp] theorem fin_nm {i : Nat} : fin (some (.ret (.nm i) s)) = finS s.e[i]? s.c := by
  unfold fin finS
  dsimp only
  try (rcases s.e[i]? with _ | _ | ⟨κ, d⟩ <;> rfl)
@[simp] theorem fin_exc {n : Str} : fin (some (.exc n s)) = some (.exc n s.c) := rfl
theorem callD_of {T : Tbl} {k : Nat} {f : Str} {as : List Sl} {np nl : Nat} {body : Sts} (hT : T f = some ⟨np, nl, body⟩) (hl : as.length = np) : callD T (k + 1) f as c = fin (evSs (callD T k) body { e := startE as nl, c := c }) := by
  show (match T f with
    | none => none
    | some G => if as.length = G.np then fin (evSs (callD T k) G.body { e := startE as G.nl, c := c }) else none) = _
  rw [hT]
  exact if_pos hl
@[simp] theorem startE_def {as : List Sl} {nl : Nat} : startE as nl = as.map some ++ List.replicate (nl - as.length) none := rfl
end
@[simp] theorem ixD_lst {ds : List D} {i : Int} : ixD (.lst ds) (.int i) = atD ds i := rfl
@[simp] theorem ixD_fl {ds : List D} {i : Int} : ixD (.fl ds) (.int i) = atD ds i := rfl
@[simp] theorem ixD_tup {ds : List D} {i : Int} : ixD (.tup ds) (.int i) = atD ds i := rfl
@[simp] theorem bop_addt {xs ys : List D} : bop .add (.tup xs) (.tup ys) = if xs ≠ [] ∧ ys ≠ [] ∧ xs.length + ys.length ≤ 16777216 then some (.sh (.tup (xs ++ ys))) else none := rfl
@[simp] theorem bop_addi {i j : Int} : bop .add (.int i) (.int j) = some (.sh (.int (i + j))) := rfl
@[simp] theorem bop_subi {i j : Int} : bop .sub (.int i) (.int j) = some (.sh (.int (i - j))) := rfl
theorem mulOk_l {i j : Int} (h : -18446744073709551616 < i ∧ i < 18446744073709551616) : mulOk i j = true := decide_eq_true (.inl h)
theorem mulOk_r {i j : Int} (h : -18446744073709551616 < j ∧ j < 18446744073709551616) : mulOk i j = true := decide_eq_true (.inr h)
@[simp] theorem bop_muli {i j : Int} : bop .mul (.int i) (.int j) = if mulOk i j then some (.sh (.int (i * j))) else none := rfl
/-- a great divisor -/
def bopW (i j : Int) : Option R := if 0 < j ∧ j < 1000000000000000000000000000000000000000000000000000000000000 then some (.sh (.int (i / j))) else none
theorem bop_fdivW {i j : Int} (h : 0 < j ∧ j < 1000000000000000000000000000000000000000000000000000000000000) : bop .fdiv (.int i) (.int j) = some (.sh (.int (i / j))) := if_pos h
@[simp] theorem bop_fdivi {i j : Int} : bop .fdiv (.int i) (.int j) = if 0 < j ∧ j < 1073741824 then some (.sh (.int (i / j))) else bopW i j := by
  by_cases h : 0 < j ∧ j < 1073741824
  · rw [if_pos h]
    exact bop_fdivW ⟨h.1, by omega⟩
  · rw [if_neg h]
    rfl
@[simp] theorem bop_modi {i j : Int} : bop .mod (.int i) (.int j) = if 0 < j then some (.sh (.int (i % j))) else none := rfl
@[simp] theorem bop_shri {i j : Int} : bop .shr (.int i) (.int j) = if 0 ≤ j then some (.sh (.int (i / 2 ^ j.toNat))) else none := rfl
@[simp] theorem bop_powi {i j : Int} : bop .pow (.int i) (.int j) = if 0 ≤ j ∧ j ≤ 1000000 ∧ i.natAbs < 18446744073709551616 then some (.sh (.int (i ^ j.toNat))) else none := rfl
@[simp] theorem bop_band {i j : Int} : bop .band (.int i) (.int j) = some (.sh (.int (Builtin.bitAnd i j))) := rfl
@[simp] theorem bop_addl {xs ys : List D} : bop .add (.lst xs) (.lst ys) = if xs.length + ys.length ≤ 16777216 then some (.fr (.lst (xs ++ ys))) else none := rfl
/-- a list so many times -/
def rep {α : Type} (k : Int) (l : List α) : List α := (List.replicate k.toNat l).flatten
theorem rep_map {α β : Type} {f : α → β} {k : Int} {l : List α} : rep k (l.map f) = (rep k l).map f := by
  unfold rep
  rw [List.map_flatten, List.map_replicate]
theorem rep_len {α : Type} {k : Int} {l : List α} : (rep k l).length = k.toNat * l.length := by
  unfold rep
  generalize k.toNat = m
  induction m with
  | zero => simp
  | succ m ih =>
    rw [List.replicate_succ, List.flatten_cons, List.length_append, ih, Nat.succ_mul]
    omega
@[simp] theorem bop_mull {xs : List D} {k : Int} : bop .mul (.lst xs) (.int k) = if -9223372036854775808 ≤ k ∧ k < 9223372036854775808 ∧ xs.length * k.toNat ≤ 16777216 then some (.fr (.lst (rep k xs))) else none := rfl
@[simp] theorem cop_eqi {i j : Int} : cop .eq (.int i) (.int j) = some (decide (i = j)) := rfl
@[simp] theorem cop_nei {i j : Int} : cop .ne (.int i) (.int j) = some (!decide (i = j)) := rfl
@[simp] theorem cop_lti {i j : Int} : cop .lt (.int i) (.int j) = some (decide (i < j)) := rfl
@[simp] theorem cop_lei {i j : Int} : cop .le (.int i) (.int j) = some (decide (i ≤ j)) := rfl
@[simp] theorem cop_gti {i j : Int} : cop .gt (.int i) (.int j) = some (decide (j < i)) := rfl
@[simp] theorem cop_gei {i j : Int} : cop .ge (.int i) (.int j) = some (decide (j ≤ i)) := rfl
@[simp] theorem truD_bl {b : Bool} : truD (.bl b) = some b := rfl
@[simp] theorem truD_int {i : Int} : truD (.int i) = some (i != 0) := rfl
@[simp] theorem truD_non : truD .non = some false := rfl
@[simp] theorem seqOf_lst {ds : List D} : seqOf (.lst ds) = some ds := rfl
@[simp] theorem seqOf_fl {ds : List D} : seqOf (.fl ds) = some ds := rfl
@[simp] theorem seqOf_tup {ds : List D} : seqOf (.tup ds) = some ds := rfl
@[simp] theorem lstOf_lst {ds : List D} : lstOf (.lst ds) = some ds := rfl
@[simp] theorem lstOf_fl {ds : List D} : lstOf (.fl ds) = some ds := rfl
@[simp] theorem lstOf_tup {ds : List D} : lstOf (.tup ds) = none := rfl
@[simp] theorem slD_lst {ds : List D} {lo hi : Option Int} : slD (.lst ds) lo hi = some (.fr (.lst (cut ds lo hi))) := rfl
@[simp] theorem slD_fl {ds : List D} {lo hi : Option Int} : slD (.fl ds) lo hi = some (.fr (.lst (cut ds lo hi))) := rfl
@[simp] theorem revD_lst {ds : List D} : revD (.lst ds) = some (.fr (.lst ds.reverse)) := rfl
@[simp] theorem blt_lenl {ds : List D} : bltD .len [.lst ds] = some (.sh (.int ds.length)) := rfl
@[simp] theorem blt_lenf {ds : List D} : bltD .len [.fl ds] = some (.sh (.int ds.length)) := rfl
@[simp] theorem blt_lent {ds : List D} : bltD .len [.tup ds] = some (.sh (.int ds.length)) := rfl
@[simp] theorem blt_abs {i : Int} : bltD .abs [.int i] = some (.sh (.int (if i < 0 then -i else i))) := rfl
@[simp] theorem blt_max2 {i j : Int} : bltD .max [.int i, .int j] = some (.sh (.int (max i j))) := by
  show some (R.sh (.int (if j > i then j else i))) = _
  by_cases h : j > i
  · rw [if_pos h, show max i j = j by omega]
  · rw [if_neg h, show max i j = i by omega]
@[simp] theorem blt_min2 {i j : Int} : bltD .min [.int i, .int j] = some (.sh (.int (min i j))) := by
  show some (R.sh (.int (if j < i then j else i))) = _
  by_cases h : j < i
  · rw [if_pos h, show min i j = j by omega]
  · rw [if_neg h, show min i j = i by omega]
theorem rng1 {j : Int} {m : Nat} (e : j.toNat = m) (h : -1000000000000 ≤ j ∧ j ≤ 1000000000000) : rngD [.int j] = some ((List.range m).map fun (k : Nat) => D.int (k : Int)) := by
  rw [← e]
  exact if_pos (by omega)
theorem rng2 {i j : Int} {m : Nat} (e : (j - i).toNat = m) (h : -1000000000000 ≤ i ∧ i ≤ 1000000000000) (h' : -1000000000000 ≤ j ∧ j ≤ 1000000000000) : rngD [.int i, .int j] = some ((List.range m).map fun (k : Nat) => D.int (i + (k : Int))) := by
  rw [← e]
  exact if_pos (by omega)
@[simp] theorem blt_list {ds : List D} : bltD .list [.lst ds] = some (.fr (.lst ds)) := rfl
@[simp] theorem blt_listf {ds : List D} : bltD .list [.fl ds] = some (.fr (.lst ds)) := rfl
@[simp] theorem blt_listt {ds : List D} : bltD .list [.tup ds] = some (.fr (.lst ds)) := rfl
@[simp] theorem blt_inti {i : Int} : bltD .int [.int i] = some (.sh (.int i)) := rfl
@[simp] theorem blt_intb {b : Bool} : bltD .int [.bl b] = some (.sh (.int (if b then 1 else 0))) := rfl
theorem intsOf_map {ns : List Int} : intsOf (ns.map D.int) = some ns := by
  induction ns with
  | nil => rfl
  | cons n ns ih => simp [intsOf, ih]
@[simp] theorem blt_sum {ns : List Int} : bltD .sum [.lst (ns.map D.int)] = some (.sh (.int ns.sum)) := by
  show (match intsOf (ns.map D.int) with
    | some ns => some (R.sh (.int ns.sum))
    | none => none) = _
  rw [intsOf_map]
@[simp] theorem isD_i {i : Int} {ts : List Ty} : isD (.int i) ts = some (ts.any (isTy (.int i))) := rfl
@[simp] theorem isD_b {i : Bool} {ts : List Ty} : isD (.bl i) ts = some (ts.any (isTy (.bl i))) := rfl
@[simp] theorem isD_s {i : Str} {ts : List Ty} : isD (.str i) ts = some (ts.any (isTy (.str i))) := rfl
@[simp] theorem isD_n {ts : List Ty} : isD .non ts = some (ts.any (isTy .non)) := rfl
@[simp] theorem isD_l {i : List D} {ts : List Ty} : isD (.lst i) ts = some (ts.any (isTy (.lst i))) := rfl
@[simp] theorem isD_f {i : List D} {ts : List Ty} : isD (.fl i) ts = some (ts.any (isTy (.fl i))) := rfl
@[simp] theorem isD_t {i : List D} {ts : List Ty} : isD (.tup i) ts = some (ts.any (isTy (.tup i))) := rfl
@[simp] theorem mut_app {xs : List D} {y : D} : mutD .append xs [y] = if xs.length < 16777216 then some (.non, xs ++ [y]) else none := rfl
def popB (o : Option D) (xs : List D) : Option (D × List D) := match o with
    | some y => some (y, xs.dropLast)
    | none => none
@[simp] theorem popB_s {y : D} {xs : List D} : popB (some y) xs = some (y, xs.dropLast) := rfl
@[simp] theorem mut_pop {xs : List D} : mutD .pop xs [] = popB xs.getLast? xs := rfl
def popK (o : Option Nat) (xs : List D) (i : Int) : Option (D × List D) := match o with
    | some k => match xs[k]? with
      | some y => if -9223372036854775808 ≤ i ∧ i < 9223372036854775808 then some (y, xs.eraseIdx k) else none
      | none => none
    | none => none
theorem popK_s {k : Nat} {y : D} {xs : List D} {i : Int} (h : xs[k]? = some y) (hi : -9223372036854775808 ≤ i ∧ i < 9223372036854775808) : popK (some k) xs i = some (y, xs.eraseIdx k) := by
  unfold popK
  dsimp only
  rw [h]
  exact if_pos hi
@[simp] theorem mut_popAt {xs : List D} {i : Int} : mutD .popAt xs [.int i] = popK (ixN xs.length i) xs i := rfl
@[simp] theorem mut_extend {xs ys : List D} : mutD .extend xs [.lst ys] = if xs.length + ys.length ≤ 16777216 then some (.non, xs ++ ys) else none := rfl
@[simp] theorem mut_insert {xs : List D} {i : Int} {y : D} : mutD .insert xs [.int i, y] = if xs.length < 16777216 ∧ 0 ≤ i ∧ i < 9223372036854775808 then some (.non, xs.take i.toNat ++ [y] ++ xs.drop i.toNat) else none := rfl
@[simp] theorem mut_clear {xs : List D} : mutD .clear xs [] = some (.non, []) := rfl
@[simp] theorem mth_count {ns : List Int} {k : Int} : mthD .count (.lst (ns.map D.int)) [.int k] = some (.sh (.int (ns.count k))) := by
  show (match intsOf (ns.map D.int) with
    | some ns => some (R.sh (.int (ns.count k)))
    | none => none) = _
  rw [intsOf_map]
theorem flat_ints {ns : List Int} : (ns.map D.int).all flatD = true := by
  induction ns with
  | nil => rfl
  | cons n ns ih =>
    rw [List.map_cons, List.all_cons, ih]
    rfl
theorem idx_ints {x : Int} : ∀ {ns : List Int}, x ∈ ns → idxD (.int x) (ns.map D.int) = some (ns.idxOf x)
  | [], h => by cases h
  | n :: ns, h => by
    show (if eqF (.int n) (.int x) then some 0 else match idxD (.int x) (ns.map D.int) with
      | some j => some (j + 1)
      | none => none) = _
    by_cases e : n = x
    · subst e
      rw [if_pos (by show (n == n) = true; simp)]
      simp [List.idxOf_cons]
    · rw [if_neg (by show ¬ (n == x) = true; simpa using e)]
      have hm : x ∈ ns := by
        rcases List.mem_cons.mp h with h | h
        · exact absurd h.symm e
        · exact h
      rw [idx_ints hm]
      have e' : (n == x) = false := by simpa using e
      simp [List.idxOf_cons, e']
theorem mth_index {ns : List Int} {x : Int} (h : x ∈ ns) : mthD .index (.lst (ns.map D.int)) [.int x] = some (.sh (.int (ns.idxOf x))) := by
  show (if flatD (.int x) = true ∧ (ns.map D.int).all flatD = true then match idxD (.int x) (ns.map D.int) with
    | some j => some (R.sh (.int j))
    | none => none else none) = _
  rw [if_pos ⟨rfl, flat_ints⟩, idx_ints h]
def getB (o : Option D) : Option R := match o with
      | some d => some (.sh d)
      | none => none
@[simp] theorem getB_s {d : D} : getB (some d) = some (.sh d) := rfl
@[simp] theorem mth_get {kvs : List (Key × V)} {k z : Int} : mthD .get (.dct kvs) [.int k, .int z] = getB (vD ((valV kvs (.inl k)).getD (.int z))) := rfl
theorem blsOf_map {bs : List Bool} : blsOf (bs.map D.bl) = some bs := by
  induction bs with
  | nil => rfl
  | cons n ns ih => simp [blsOf, ih]
@[simp] theorem blt_all {bs : List Bool} : bltD .all [.lst (bs.map D.bl)] = some (.sh (.bl (bs.all id))) := by
  show (match blsOf (bs.map D.bl) with
    | some bs => some (R.sh (.bl (bs.all id)))
    | none => none) = _
  rw [blsOf_map]
@[simp] theorem blt_min3 {i j k : Int} : bltD .min [.int i, .int j, .int k] = some (.sh (.int (min (min i j) k))) := rfl
@[simp] theorem blt_max3 {i j k : Int} : bltD .max [.int i, .int j, .int k] = some (.sh (.int (max (max i j) k))) := rfl
@[simp] theorem blt_mint3 {a b c a' b' c' : Int} : bltD .min [.tup [.int a, .int b, .int c], .tup [.int a', .int b', .int c']] = some (.sh (.tup (if lexLt [a', b', c'] [a, b, c] then [.int a', .int b', .int c'] else [.int a, .int b, .int c]))) := rfl
theorem blt_lrng1 {j : Int} {m : Nat} (e : j.toNat = m) (h : -1000000000000 ≤ j ∧ j ≤ 16777216) : bltD .lrng [.int j] = some (.fr (.lst ((List.range m).map fun (k : Nat) => D.int (k : Int)))) := by
  rw [← e]
  exact if_pos (by omega)
theorem blt_lrng3 {i j : Int} {m : Nat} (e : (i - j).toNat = m) (h : -1000000000000 ≤ i ∧ i ≤ 1000000000000) (h' : -1000000000000 ≤ j ∧ j ≤ 1000000000000) (h2 : i - j ≤ 16777216) : bltD .lrng [.int i, .int j, .int (-1)] = some (.fr (.lst ((List.range m).map fun (k : Nat) => D.int (i - (k : Int))))) := by
  subst e
  exact if_pos (by omega)
@[simp] theorem blt_lens {x : Str} : bltD .len [.str x] = if x.length ≤ 16777216 then some (.sh (.int x.length)) else none := rfl
@[simp] theorem blt_str {i : Int} : bltD .str [.int i] = if i.natAbs.log2 < 1920 then some (.sh (.str (toString i))) else none := rfl
theorem blt_ints {x : Str} {n : Int} (h : PySem.intText? x = some n) (hl : x.length ≤ 640) : bltD .int [.str x] = some (.sh (.int n)) := by
  show (if x.length ≤ 640 then match PySem.intText? x with
    | some n => some (R.sh (.int n))
    | none => none else none) = _
  rw [if_pos hl, h]
@[simp] theorem cop_mems {x y : Str} : cop .mem (.str x) (.str y) = some (!(Builtin.Str.occurrences y x 0 y.length 1).isEmpty) := rfl
@[simp] theorem cop_nmems {x y : Str} : cop .nmem (.str x) (.str y) = some (!(!(Builtin.Str.occurrences y x 0 y.length 1).isEmpty)) := rfl
@[simp] theorem slD_str {x : Str} {lo hi : Option Int} : slD (.str x) lo hi = if x.length ≤ 16777216 then some (.sh (.str (cutS x lo hi))) else none := rfl
theorem blt_lrng2 {i j : Int} {m : Nat} (e : (j - i).toNat = m) (h : -1000000000000 ≤ i ∧ i ≤ 1000000000000) (h' : -1000000000000 ≤ j ∧ j ≤ 1000000000000) (h2 : j - i ≤ 16777216) : bltD .lrng [.int i, .int j] = some (.fr (.lst ((List.range m).map fun (k : Nat) => D.int (i + (k : Int))))) := by
  rw [← e]
  exact if_pos (by omega)
theorem keysOf_map {ks : List Int} {v : V} : keysOf (ks.map fun k => (Sum.inl k, v)) = some ks := by
  induction ks with
  | nil => rfl
  | cons n ns ih => simp [keysOf, ih]
/-- max and min of a list of numbers -/
def maxL : List Int → Int
  | [] => 0
  | x :: r => mxL x r
def minL : List Int → Int
  | [] => 0
  | x :: r => mnL x r
theorem blt_maxl {ns : List Int} (h : ns ≠ []) : bltD .max [.lst (ns.map D.int)] = some (.sh (.int (maxL ns))) := by
  show (match intsOf (ns.map D.int) with
    | some (x :: r) => some (R.sh (.int (mxL x r)))
    | _ => none) = _
  rw [intsOf_map]
  cases ns with
  | nil => exact absurd rfl h
  | cons x r => rfl
theorem blt_minl {ns : List Int} (h : ns ≠ []) : bltD .min [.lst (ns.map D.int)] = some (.sh (.int (minL ns))) := by
  show (match intsOf (ns.map D.int) with
    | some (x :: r) => some (R.sh (.int (mnL x r)))
    | some [] => none
    | none => minTD (ns.map D.int)) = _
  rw [intsOf_map]
  cases ns with
  | nil => exact absurd rfl h
  | cons x r => rfl
theorem maxL_mem {ns : List Int} (h : ns ≠ []) : maxL ns ∈ ns := by
  cases ns with
  | nil => exact absurd rfl h
  | cons x r => exact (mxL_mem r x).1
theorem le_maxL {ns : List Int} {y : Int} (h : y ∈ ns) : y ≤ maxL ns := by
  cases ns with
  | nil => cases h
  | cons x r => exact (mxL_mem r x).2 y h
theorem minL_mem {ns : List Int} (h : ns ≠ []) : minL ns ∈ ns := by
  cases ns with
  | nil => exact absurd rfl h
  | cons x r => exact (mnL_mem r x).1
theorem minL_le {ns : List Int} {y : Int} (h : y ∈ ns) : minL ns ≤ y := by
  cases ns with
  | nil => cases h
  | cons x r => exact (mnL_mem r x).2 y h
theorem maxL_eq {ns : List Int} {m : Int} (h : m ∈ ns) (h' : ∀ y ∈ ns, y ≤ m) : maxL ns = m := by
  have hn : ns ≠ [] := fun e => by rw [e] at h; cases h
  exact Int.le_antisymm (h' _ (maxL_mem hn)) (le_maxL h)
theorem minL_eq {ns : List Int} {m : Int} (h : m ∈ ns) (h' : ∀ y ∈ ns, m ≤ y) : minL ns = m := by
  have hn : ns ≠ [] := fun e => by rw [e] at h; cases h
  exact Int.le_antisymm (minL_le h) (h' _ (minL_mem hn))
theorem cut_map {α β : Type} {f : α → β} {xs : List α} {lo hi : Option Int} : cut (xs.map f) lo hi = (cut xs lo hi).map f := by
  unfold cut
  simp [List.map_take, List.map_drop]
theorem atD_at {ds : List D} {i : Int} {j : Nat} (h : i = j) (hj : j < ds.length) : atD ds i = some ds[j] := by
  subst h
  unfold atD ixN
  rw [if_pos (by omega), if_pos (by omega)]
  simp [hj]
theorem atD_neg1 {ds : List D} {y : D} (h : ds.getLast? = some y) : atD ds (-1) = some y := by
  have hn : ds ≠ [] := by
    intro e
    rw [e] at h
    cases h
  have hl : 0 < ds.length := List.length_pos_iff.mpr hn
  unfold atD ixN
  rw [if_neg (by decide), if_pos (by omega)]
  rw [List.getLast?_eq_getElem?] at h
  have e : (-1 + (ds.length : Int)).toNat = ds.length - 1 := by omega
  dsimp only
  rw [e, h]
/-! equality -/
theorem toPs_map {α : Type} {f : α → D} {g : α → PyData} (h : ∀ a, toP (f a) = some (g a)) (l : List α) : toPs (l.map f) = some (l.map g) := by
  induction l with
  | nil => rfl
  | cons a l ih =>
    show (match toP (f a), toPs (l.map f) with
      | some p, some ps => some (p :: ps)
      | _, _ => none) = _
    rw [h a, ih]
    rfl
/-- data of type α written as f: equal where the α's are -/
structure EqTo {α : Type} [DecidableEq α] (f : α → D) (g : α → PyData) (n : Nat) : Prop where
  p : ∀ a, toP (f a) = some (g a)
  c : ∀ a, (g a).canLay0 = true
  d : ∀ a, (g a).depth ≤ n
  e : ∀ a b, PyData.eqv (g a) (g b) = decide (a = b)
theorem EqTo.eqD {α : Type} [DecidableEq α] {f : α → D} {g : α → PyData} {n : Nat} (h : EqTo f g n) (hn : n ≤ 64) (a b : α) : eqD (f a) (f b) = some (decide (a = b)) := by
  have sh : ∀ a, SeqAt.shaped (g a) = true := fun a => by
    unfold SeqAt.shaped
    rw [h.c a, Bool.true_and]
    exact decide_eq_true (Nat.le_trans (h.d a) hn)
  unfold PV.eqD
  rw [h.p a, h.p b]
  dsimp only
  rw [if_pos ⟨sh a, sh b⟩, h.e]
theorem EqTo.int : EqTo (α := Int) D.int PyData.int 0 := ⟨fun _ => rfl, fun _ => rfl, fun _ => Nat.le_refl 0, fun a b => by
  simp only [PyData.eqv]
  rfl⟩
theorem EqTo.lst {α : Type} [DecidableEq α] {f : α → D} {g : α → PyData} {n : Nat} (h : EqTo f g n) : EqTo (fun l : List α => .lst (l.map f)) (fun l => .list (l.map g)) (n + 1) := by
  refine ⟨fun l => ?_, fun l => ?_, fun l => ?_, fun a b => ?_⟩
  · show (match toPs (l.map f) with
      | some ps => some (PyData.list ps)
      | none => none) = _
    rw [toPs_map h.p]
  · show PyData.canLayAll0 (l.map g) = true
    induction l with
    | nil => rfl
    | cons a l ih =>
      show ((g a).canLay0 && PyData.canLayAll0 (l.map g)) = true
      rw [h.c a, ih]
      rfl
  · show PyData.depthAll (l.map g) + 1 ≤ n + 1
    refine Nat.succ_le_succ ?_
    induction l with
    | nil => exact Nat.zero_le _
    | cons a l ih =>
      show max (g a).depth (PyData.depthAll (l.map g)) ≤ n
      have := h.d a
      omega
  · show PyData.eqv (.list (a.map g)) (.list (b.map g)) = _
    simp only [PyData.eqv]
    induction a generalizing b with
    | nil =>
      cases b with
      | nil => rfl
      | cons y b => simp [PyData.eqvAll]
    | cons x a ih =>
      cases b with
      | nil => simp [PyData.eqvAll]
      | cons y b =>
        simp only [List.map_cons, PyData.eqvAll, ih, h.e]
        simp [Bool.decide_and]
theorem EqTo.pair {α β : Type} [DecidableEq α] [DecidableEq β] {f : α → D} {g : α → PyData} {f' : β → D} {g' : β → PyData} {n m : Nat} (h : EqTo f g n) (h' : EqTo f' g' m) : EqTo (fun x : α × β => .tup [f x.1, f' x.2]) (fun x => .tuple [g x.1, g' x.2]) (max n m + 1) := by
  refine ⟨fun x => ?_, fun x => ?_, fun x => ?_, fun a b => ?_⟩
  · simp [toP, toPs, h.p, h'.p]
  · simp [PyData.canLay0, PyData.canLayAll0, h.c, h'.c]
  · have := h.d x.1
    have := h'.d x.2
    simp only [PyData.depth, PyData.depthAll]
    omega
  · simp only [PyData.eqv, PyData.eqvAll, h.e, h'.e]
    rcases a with ⟨a1, a2⟩
    rcases b with ⟨b1, b2⟩
    simp [Bool.decide_and]
theorem eqD_ints {ns ms : List Int} : eqD (.lst (ns.map D.int)) (.lst (ms.map D.int)) = some (decide (ns = ms)) := EqTo.int.lst.eqD (by decide) ns ms
theorem EqTo.bl : EqTo (α := Bool) D.bl PyData.bool 0 := ⟨fun _ => rfl, fun _ => rfl, fun _ => Nat.le_refl 0, fun a b => by cases a <;> cases b <;> rfl⟩
theorem eqD_bls {ns ms : List Bool} : eqD (.lst (ns.map D.bl)) (.lst (ms.map D.bl)) = some (decide (ns = ms)) := EqTo.bl.lst.eqD (by decide) ns ms
theorem eqD_ints0 {ns : List Int} : eqD (.lst (ns.map D.int)) (.lst []) = some (decide (ns = [])) := eqD_ints (ms := [])
@[simp] theorem eqD_nil : eqD (.lst []) (.lst []) = some true := eqD_ints (ns := []) (ms := [])
def fre : Option Sl → Bool
  | none => true
  | some ⟨.sh, _⟩ => true
  | _ => false
theorem fre_locked {j : Option Sl} (h : fre j = true) : locked (some j) = false := by
  rcases j with _ | ⟨k, d⟩
  · rfl
  · cases k
    · rfl
    · cases h
    · cases h
@[simp] theorem fre_none : fre none = true := rfl
@[simp] theorem fre_sh {d : D} : fre (some ⟨.sh, d⟩) = true := rfl
@[simp] theorem noOwn_nil {e : List (Option Sl)} : noOwn e [] = true := rfl
def fre' : Option (Option Sl) → Bool
  | some j => fre j
  | none => false
@[simp] theorem fre'_some {j : Option Sl} : fre' (some j) = fre j := rfl
@[simp] theorem noOwn_cons {e : List (Option Sl)} {v : Nat} {vs : List Nat} : noOwn e (v :: vs) = (fre' e[v]? && noOwn e vs) := by
  show ((match e[v]? with
    | some (some ⟨.sh, _⟩) => true
    | some none => true
    | _ => false) && noOwn e vs) = _
  rcases e[v]? with _ | _ | ⟨k, d⟩
  · rfl
  · rfl
  · cases k <;> rfl
@[simp] theorem cop_eql {xs ys : List D} : cop .eq (.lst xs) (.lst ys) = eqD (.lst xs) (.lst ys) := rfl
@[simp] theorem cop_nel {xs ys : List D} : cop .ne (.lst xs) (.lst ys) = (eqD (.lst xs) (.lst ys)).map (!·) := rfl
@[simp] theorem cop_eqt {xs ys : List D} : cop .eq (.tup xs) (.tup ys) = eqD (.tup xs) (.tup ys) := rfl
@[simp] theorem cop_net {xs ys : List D} : cop .ne (.tup xs) (.tup ys) = (eqD (.tup xs) (.tup ys)).map (!·) := rfl
@[simp] theorem cop_eqb {a b : Bool} : cop .eq (.bl a) (.bl b) = some (a == b) := by cases a <;> cases b <;> rfl
@[simp] theorem cop_neb {a b : Bool} : cop .ne (.bl a) (.bl b) = some (a != b) := by cases a <;> cases b <;> rfl
section
variable {b : Bool} {i : Int} {x : Str} {ds : List D}
@[simp] theorem ty_bi : isTy (.bl b) .int = true := rfl
@[simp] theorem ty_bb : isTy (.bl b) .bool = true := rfl
@[simp] theorem ty_bs : isTy (.bl b) .str = false := rfl
@[simp] theorem ty_bl : isTy (.bl b) .list = false := rfl
@[simp] theorem ty_bt : isTy (.bl b) .tuple = false := rfl
@[simp] theorem ty_ii : isTy (.int i) .int = true := rfl
@[simp] theorem ty_ib : isTy (.int i) .bool = false := rfl
@[simp] theorem ty_is : isTy (.int i) .str = false := rfl
@[simp] theorem ty_il : isTy (.int i) .list = false := rfl
@[simp] theorem ty_it : isTy (.int i) .tuple = false := rfl
@[simp] theorem ty_ni : isTy .non .int = false := rfl
@[simp] theorem ty_nb : isTy .non .bool = false := rfl
@[simp] theorem ty_ns : isTy .non .str = false := rfl
@[simp] theorem ty_nl : isTy .non .list = false := rfl
@[simp] theorem ty_nt : isTy .non .tuple = false := rfl
@[simp] theorem ty_si : isTy (.str x) .int = false := rfl
@[simp] theorem ty_sb : isTy (.str x) .bool = false := rfl
@[simp] theorem ty_ss : isTy (.str x) .str = true := rfl
@[simp] theorem ty_sl : isTy (.str x) .list = false := rfl
@[simp] theorem ty_st : isTy (.str x) .tuple = false := rfl
@[simp] theorem ty_li : isTy (.lst ds) .int = false := rfl
@[simp] theorem ty_lb : isTy (.lst ds) .bool = false := rfl
@[simp] theorem ty_ls : isTy (.lst ds) .str = false := rfl
@[simp] theorem ty_ll : isTy (.lst ds) .list = true := rfl
@[simp] theorem ty_lt : isTy (.lst ds) .tuple = false := rfl
@[simp] theorem ty_ti : isTy (.tup ds) .int = false := rfl
@[simp] theorem ty_tb : isTy (.tup ds) .bool = false := rfl
@[simp] theorem ty_ts : isTy (.tup ds) .str = false := rfl
@[simp] theorem ty_tl : isTy (.tup ds) .list = false := rfl
@[simp] theorem ty_tt : isTy (.tup ds) .tuple = true := rfl
end
@[simp] theorem cop_is {a : D} : cop .is a .non = some a.isNon := by cases a <;> rfl
@[simp] theorem cop_isn {a : D} : cop .isn a .non = some (!a.isNon) := by cases a <;> rfl
@[simp] theorem cop_isb {a b : Bool} : cop .is (.bl a) (.bl b) = some (decide (a = b)) := by cases a <;> cases b <;> rfl
@[simp] theorem cop_isnb {a b : Bool} : cop .isn (.bl a) (.bl b) = some (!decide (a = b)) := by cases a <;> cases b <;> rfl
@[simp] theorem isNon_b {b : Bool} : D.isNon (.bl b) = false := rfl
@[simp] theorem isNon_n : D.isNon .non = true := rfl
@[simp] theorem isNon_t {ds : List D} : D.isNon (.tup ds) = false := rfl
@[simp] theorem isNon_e {n : Str} : D.isNon (.err n) = false := rfl
@[simp] theorem isNon_i {i : Int} : D.isNon (.int i) = false := rfl
@[simp] theorem isNon_l {ds : List D} : D.isNon (.lst ds) = false := rfl
@[simp] theorem at_0 {a : D} {l : List D} : atD (a :: l) 0 = some a := by
  unfold atD ixN
  simp
@[simp] theorem at_1 {a b : D} {l : List D} : atD (a :: b :: l) 1 = some b := atD_at (j := 1) (by decide) (by simp)
@[simp] theorem at_2 {a b c : D} {l : List D} : atD (a :: b :: c :: l) 2 = some c := atD_at (j := 2) (by decide) (by simp)
@[simp] theorem cop_ltt3 {a b c a' b' c' : Int} : cop .lt (.tup [.int a, .int b, .int c]) (.tup [.int a', .int b', .int c']) = some (lexLt [a, b, c] [a', b', c']) := rfl
/-! zip -/
def zipM (x y : R) : M (List D × List Nat) := bd (lkp x) fun d => bd (lkp y) fun d' => fun s => match lstOf d, lstOf d' with
    | some xs, some ys => if lkOf s x = [] ∧ lkOf s y = [] ∧ plainR s x = true ∧ plainR s y = true then some (.ok (zipD xs ys, []) s) else none
    | _, _ => match d, d' with
      | .tup xs, .tup ys => some (.ok (zipD xs ys, []) s)
      | _, _ => none
@[simp] theorem evSrc_zipM {F : Cf} {a b : Ex} : evSrc F (.zip a b) = bl (evE F a) (fun x => bl (evE F b) (fun y => zipM x y) ⟨⟩) ⟨⟩ := rfl
theorem bd_nm {β : Type} {i : Nat} {s : Sx} {f : D → M β} : bd (lkp (.nm i)) f s = vS s.e[i]? (fun sl => bl (derM sl.d) f ⟨⟩) ⟨⟩ s := lkp_nm (u := ⟨⟩)
theorem zipM_tt {i j : Nat} {s : Sx} {xs ys : List D} {k k' : Kd} (h1 : s.e[i]? = some (some ⟨k, .tup xs⟩)) (h2 : s.e[j]? = some (some ⟨k', .tup ys⟩)) : zipM (.nm i) (.nm j) s = some (.ok (zipD xs ys, []) s) := by
  unfold zipM
  rw [bd_nm, h1, vS_s]
  show bd (lkp (.nm j)) _ s = _
  rw [bd_nm, h2]
  rfl
theorem zipM_nn {i j : Nat} {s : Sx} {xs ys : List D} {k k' : Kd} {d d' : D} (h1 : s.e[i]? = some (some ⟨k, d⟩)) (h2 : s.e[j]? = some (some ⟨k', d'⟩)) (e1 : lstOf d = some xs) (e2 : lstOf d' = some ys) (n1 : k ≠ .ow) (n2 : k' ≠ .ow) (hi : i < 1000000 := by decide) (hj : j < 1000000 := by decide) : zipM (.nm i) (.nm j) s = some (.ok (zipD xs ys, []) s) := by
  have c1 : NoC d := fun n e => by rw [e] at e1; cases e1
  have c2 : NoC d' := fun n e => by rw [e] at e2; cases e2
  have p1 : plainR s (.nm i) = true := by
    cases d <;> first | (simp only [plainR, h1, hi]; rfl) | (simp only [plainR, h1, hi, decide_true]; done) | cases e1
  have p2 : plainR s (.nm j) = true := by
    cases d' <;> first | (simp only [plainR, h2, hj]; rfl) | (simp only [plainR, h2, hj, decide_true]; done) | cases e2
  unfold zipM
  rw [bd_nm, h1, vS_s]
  dsimp only
  rw [derM_of c1]
  show bd (lkp (.nm j)) _ s = _
  rw [bd_nm, h2, vS_s]
  dsimp only
  rw [derM_of c2]
  rw [bl_pu]
  rw [e1, e2]
  dsimp only
  rw [if_pos]
  refine ⟨?_, ?_, p1, p2⟩
  · show (match s.e[i]? with
    | some (some ⟨k, _⟩) => if k = .ow then [i] else []
    | _ => []) = []
    rw [h1]
    exact if_neg n1
  · show (match s.e[j]? with
    | some (some ⟨k, _⟩) => if k = .ow then [j] else []
    | _ => []) = []
    rw [h2]
    exact if_neg n2
/-! comprehensions -/
theorem unwipe_back {e e' : List (Option Sl)} {vs : List Nat} (h : wipeE e' vs = wipeE e vs) : unwipe e vs e' = e := by
  have hl : e'.length = e.length := by
    have := congrArg List.length h
    simpa [wipeE_len] using this
  refine List.ext_getElem? fun j => ?_
  rw [unwipe_get]
  by_cases hj : j ∈ vs
  · rw [if_pos hj]
    by_cases hx : j < e.length
    · rw [if_pos (hl ▸ hx)]
      simp [hx, List.getD]
    · rw [if_neg (hl ▸ hx)]
      simp [List.getElem?_eq_none (Nat.le_of_not_lt hx)]
  · rw [if_neg hj]
    have a := congrArg (fun l => l[j]?) h
    simp only [wipeE_get, hj, false_and, if_false] at a
    exact a
theorem lcL_ok {α : Type} {t : Tg} {test : Sx → Option (Out Bool)} {elt : Sx → Option (Out D)} {own : List Nat} {W : List (Option Sl)} {c : List (List D)} {f : α → D} {p : α → Bool} {g : α → D} : ∀ {l : List α},
    (∀ a ∈ l, ∃ s1, asgT t (f a) ⟨W, c⟩ = some s1 ∧ wipeE s1.e own = W ∧ s1.c = c ∧ test s1 = some (.ok (p a) s1) ∧ (p a = true → elt s1 = some (.ok (g a) s1))) →
    ∀ {acc : List D} {s : Sx}, acc.length + l.length ≤ 16777216 → wipeE s.e own = W → s.c = c → ∃ s', lcL t test elt own (l.map f) acc s = some (.ok (acc ++ (l.filter p).map g) s') ∧ wipeE s'.e own = W ∧ s'.c = c
  | [], _, acc, s, _, hW, hc => ⟨s, by simp [lcL], hW, hc⟩
  | d :: ds, h, acc, s, hl, hW, hc => by
    obtain ⟨s1, a1, a2, a3, a4, a5⟩ := h d (by simp)
    have hl' : acc.length + (ds.length + 1) ≤ 16777216 := hl
    have e0 : ({ s with e := wipeE s.e own } : Sx) = ⟨W, c⟩ := by rw [hW, ← hc]
    rw [List.map_cons]
    unfold lcL
    rw [e0, a1]
    dsimp only
    rw [a4]
    cases hp : p d with
    | false =>
      dsimp only
      obtain ⟨s', b1, b2, b3⟩ := lcL_ok (p := p) (g := g) (l := ds) (fun d hd => h d (by simp [hd])) (acc := acc) (s := s1) (by omega) a2 a3
      exact ⟨s', by rw [b1]; simp [hp], b2, b3⟩
    | true =>
      dsimp only
      rw [a5 hp]
      dsimp only
      rw [if_pos (by omega)]
      obtain ⟨s', b1, b2, b3⟩ := lcL_ok (p := p) (g := g) (l := ds) (fun d hd => h d (by simp [hd])) (acc := acc ++ [g d]) (s := s1) (by simp; omega) a2 a3
      exact ⟨s', by rw [b1]; simp [hp], b2, b3⟩
theorem gdT_of {α : Type} {L : List Nat} {ds : List D} {b : Sx → Option (Out α)} {s : Sx} {a : α} {s' : Sx} (h : b s = some (.ok a s')) (g : GdOk L ds s') : gdT L ds b s = some (.ok a s') := by
  unfold gdT
  rw [h]
  exact if_pos g
theorem gdT_low {α : Type} {L : List Nat} {ds : List D} {b : Sx → Option (Out α)} (h : ∀ i ∈ L, i < 1000000) : gdT L ds b = b := by
  have g : ∀ s, GdOk L ds s := fun s n hn => by have := h _ hn; omega
  funext s
  unfold gdT
  cases hb : b s with
  | none => rfl
  | some f => cases f <;> simp [g]
/-- a comprehension whose test and item change nothing -/
theorem lc_ok {α : Type} {F : Cf} {own : List Nat} {t : Tg} {src : Src} {test : Exo} {a : Ex} {s s0 : Sx} {ds : List D} {L : List Nat} (l : List α) (f : α → D) (p : α → Bool) (g : α → D) (hs : evSrc F src s = some (.ok (ds, L) s0)) (hd : ds = l.map f) (hno : noOwn (lock L s0).e own = true) (hlen : l.length ≤ 16777216)
    (hG : ∀ s : Sx, s.c = (lock L s0).c → GdOk L ds s)
    (ht : ∀ d ∈ l, ∃ s1, asgT t (f d) ⟨wipeE (lock L s0).e own, (lock L s0).c⟩ = some s1 ∧ wipeE s1.e own = wipeE (lock L s0).e own ∧ s1.c = (lock L s0).c ∧ evC F test s1 = some (.ok (p d) s1) ∧ (p d = true → bl (evE F a) (fun x => esc x) ⟨⟩ s1 = some (.ok (g d) s1))) :
    evE F (.lc own a t src test) s = some (.ok (.fr (.lst ((l.filter p).map g))) (unlock L (lock L s0))) := by
  obtain ⟨s', b1, b2, b3⟩ := lcL_ok (test := gdT L ds (evC F test)) (elt := gdT L ds (bd (evE F a) esc)) (p := p) (g := g) (fun d hd => by
    obtain ⟨s1, a1, a2, a3, a4, a5⟩ := ht d hd
    exact ⟨s1, a1, a2, a3, gdT_of a4 (hG s1 a3), fun h => gdT_of (a5 h) (hG s1 a3)⟩) (acc := []) (s := lock L s0) (by simpa using hlen) rfl rfl
  have hs' : bd (evSrc F src) (fun p => fun s => if noOwn (lock p.2 s).e own then
      match lcL t (gdT p.2 p.1 (evC F test)) (gdT p.2 p.1 (bd (evE F a) esc)) own p.1 [] (lock p.2 s) with
      | some (.ok ys s') => some (Out.ok (R.fr (.lst ys)) (unlock p.2 { s' with e := unwipe (lock p.2 s).e own s'.e }))
      | _ => none
    else none) s = _ := bl_some (u := ⟨⟩) hs
  unfold evE
  refine hs'.trans ?_
  dsimp only
  rw [← hd] at b1
  rw [if_pos hno, b1]
  dsimp only
  rw [unwipe_back b2]
  have : ({ s' with e := (lock L s0).e } : Sx) = lock L s0 := by rw [b3]
  rw [List.nil_append, this]
theorem lc0 {α : Type} {F : Cf} {own : List Nat} {t : Tg} {src : Src} {test : Exo} {a : Ex} {s : Sx} (l : List α) (f : α → D) (p : α → Bool) (g : α → D) (hs : evSrc F src s = some (.ok (l.map f, []) s)) (hno : noOwn s.e own = true) (hlen : l.length ≤ 16777216)
    (ht : ∀ d ∈ l, ∃ s1, asgT t (f d) ⟨wipeE s.e own, s.c⟩ = some s1 ∧ wipeE s1.e own = wipeE s.e own ∧ s1.c = s.c ∧ evC F test s1 = some (.ok (p d) s1) ∧ (p d = true → bl (evE F a) (fun x => esc x) ⟨⟩ s1 = some (.ok (g d) s1))) :
    evE F (.lc own a t src test) s = some (.ok (.fr (.lst ((l.filter p).map g))) s) := lc_ok l f p g hs rfl hno hlen (fun _ _ _ h => nomatch h) ht
/-- .. where the walked list is the name i's own -/
theorem lc1 {α : Type} {F : Cf} {own : List Nat} {t : Tg} {src : Src} {test : Exo} {a : Ex} {s : Sx} (i : Nat) (l : List α) (f : α → D) (p : α → Bool) (g : α → D) (hs : evSrc F src s = some (.ok (l.map f, [i]) s)) (hno : noOwn (lock [i] s).e own = true) (hlen : l.length ≤ 16777216)
    (ht : ∀ d ∈ l, ∃ s1, asgT t (f d) ⟨wipeE (lock [i] s).e own, (lock [i] s).c⟩ = some s1 ∧ wipeE s1.e own = wipeE (lock [i] s).e own ∧ s1.c = (lock [i] s).c ∧ evC F test s1 = some (.ok (p d) s1) ∧ (p d = true → bl (evE F a) (fun x => esc x) ⟨⟩ s1 = some (.ok (g d) s1))) (hi : i < 1000000 := by decide) :
    evE F (.lc own a t src test) s = some (.ok (.fr (.lst ((l.filter p).map g))) (unlock [i] (lock [i] s))) := lc_ok l f p g hs rfl hno hlen (fun _ _ => gdOk_low hi) ht
/-- .. a list with an identity -/
theorem lcC {α : Type} {F : Cf} {own : List Nat} {t : Tg} {src : Src} {test : Exo} {a : Ex} {s : Sx} (n : Nat) (l : List α) (f : α → D) (p : α → Bool) (g : α → D) (hs : evSrc F src s = some (.ok (l.map f, [1000000 + n]) s)) (hc : s.c[n]? = some (l.map f)) (hno : noOwn s.e own = true) (hlen : l.length ≤ 16777216)
    (ht : ∀ d ∈ l, ∃ s1, asgT t (f d) ⟨wipeE s.e own, s.c⟩ = some s1 ∧ wipeE s1.e own = wipeE s.e own ∧ s1.c = s.c ∧ evC F test s1 = some (.ok (p d) s1) ∧ (p d = true → bl (evE F a) (fun x => esc x) ⟨⟩ s1 = some (.ok (g d) s1))) :
    evE F (.lc own a t src test) s = some (.ok (.fr (.lst ((l.filter p).map g))) s) := by
  have e1 : lock [1000000 + n] s = s := if_neg (by omega)
  have e2 : unlock [1000000 + n] s = s := if_neg (by omega)
  have := lc_ok (L := [1000000 + n]) (s0 := s) (own := own) (t := t) (test := test) (a := a) l f p g hs rfl (by rw [e1]; exact hno) hlen (fun s' h => gdOk_c.mpr (by rw [h, e1]; exact hc)) (by rw [e1]; exact ht)
  rw [e1, e2] at this
  exact this
/-- one whose element may raise -/
theorem lcLx_ok {α : Type} {t : Tg} {elt : Sx → Option (Out D)} {own : List Nat} {f : α → D} {ok : α → Prop} [DecidablePred ok] {g : α → D} {n : Str} {W : List (Option Sl)} {c : List (List D)} : ∀ {l : List α},
    (∀ a ∈ l, ∃ s1, asgT t (f a) ⟨W, c⟩ = some s1 ∧ wipeE s1.e own = W ∧ s1.c = c ∧ elt s1 = some (if ok a then .ok (g a) s1 else .exc n s1)) →
    ∀ {acc : List D} {s : Sx}, acc.length + l.length ≤ 16777216 → wipeE s.e own = W → s.c = c → ∃ s', lcLx t elt own (l.map f) acc s = some (if ∀ a ∈ l, ok a then .ok (acc ++ l.map g) s' else .exc n s') ∧ wipeE s'.e own = W ∧ s'.c = c
  | [], _, acc, s, _, hW, hc => ⟨s, by rw [if_pos (fun a h => nomatch h)]; simp [lcLx], hW, hc⟩
  | d :: ds, h, acc, s, hl, hW, hc => by
    obtain ⟨s1, a1, a2, a3, a4⟩ := h d (by simp)
    have hl' : acc.length + (ds.length + 1) ≤ 16777216 := hl
    have e0 : ({ s with e := wipeE s.e own } : Sx) = ⟨W, c⟩ := by rw [hW, ← hc]
    rw [List.map_cons]
    unfold lcLx
    rw [e0, a1]
    dsimp only
    rw [a4]
    by_cases hd : ok d
    · rw [if_pos hd]
      dsimp only
      rw [if_pos (by omega)]
      obtain ⟨s', b1, b2, b3⟩ := lcLx_ok (ok := ok) (g := g) (n := n) (l := ds) (fun d hd => h d (by simp [hd])) (acc := acc ++ [g d]) (s := s1) (by simp; omega) a2 a3
      refine ⟨s', b1.trans (congrArg some ?_), b2, b3⟩
      by_cases hds : ∀ a ∈ ds, ok a
      · rw [if_pos hds, if_pos (List.forall_mem_cons.mpr ⟨hd, hds⟩)]
        simp
      · rw [if_neg hds, if_neg (fun z => hds fun a ha => z a (List.mem_cons_of_mem _ ha))]
    · rw [if_neg hd]
      exact ⟨s1, by rw [if_neg (fun z => hd (z d List.mem_cons_self))], a2, a3⟩
theorem lcx0 {α : Type} {F : Cf} {own : List Nat} {t : Tg} {src : Src} {a : Ex} {s : Sx} (l : List α) (f : α → D) (ok : α → Prop) [DecidablePred ok] (g : α → D) (n : Str) (hs : evSrc F src s = some (.ok (l.map f, []) s)) (hno : noOwn s.e own = true) (hlen : l.length ≤ 16777216)
    (ht : ∀ d ∈ l, ∃ s1, asgT t (f d) ⟨wipeE s.e own, s.c⟩ = some s1 ∧ wipeE s1.e own = wipeE s.e own ∧ s1.c = s.c ∧ bl (evE F a) (fun x => esc x) ⟨⟩ s1 = some (if ok d then .ok (g d) s1 else .exc n s1)) :
    evE F (.lcx own a t src) s = some (if ∀ d ∈ l, ok d then .ok (.fr (.lst (l.map g))) s else .exc n s) := by
  obtain ⟨s', b1, b2, b3⟩ := lcLx_ok (elt := gdT [] (l.map f) (bd (evE F a) esc)) (ok := ok) (g := g) (n := n) (fun d hd => by
    obtain ⟨s1, a1, a2, a3, a4⟩ := ht d hd
    exact ⟨s1, a1, a2, a3, by rw [gdT_low (L := []) (fun i h => nomatch h)]; exact a4⟩) (acc := []) (s := s) (by simpa using hlen) rfl rfl
  have hs' : bd (evSrc F src) (fun p => fun s => if noOwn (lock p.2 s).e own then
      match lcLx t (gdT p.2 p.1 (bd (evE F a) esc)) own p.1 [] (lock p.2 s) with
      | some (.ok ys s') => some (Out.ok (R.fr (.lst ys)) (unlock p.2 { s' with e := unwipe (lock p.2 s).e own s'.e }))
      | some (.exc n s') => some (Out.exc n (unlock p.2 { s' with e := unwipe (lock p.2 s).e own s'.e }))
      | none => none
    else none) s = _ := bl_some (u := ⟨⟩) hs
  unfold evE
  refine hs'.trans ?_
  dsimp only
  have hno' : noOwn (lock [] s).e own = true := hno
  have e1 : lock [] s = s := rfl
  have e2 : ({ s' with e := unwipe s.e own s'.e } : Sx) = s := by
    rw [unwipe_back b2, b3]
  rw [if_pos hno', e1, b1]
  by_cases h : ∀ d ∈ l, ok d
  · rw [if_pos h, if_pos h]
    dsimp only
    rw [e2]
    rfl
  · rw [if_neg h, if_neg h]
    dsimp only
    rw [e2]
    rfl
/-- [k == j for k in range(n)] -/
def flagL (n : Nat) (j : Int) : List Bool := (List.range n).map fun (k : Nat) => decide ((k : Int) = j)
theorem flag_lc {β : Type} {F : Cf} {s : Sx} {i : Nat} {j n : Int} {f : R → M β} {u : Tag f} (h : noOwn s.e [i] = true) (hn : 0 ≤ n ∧ n ≤ 1000) :
    bl (evE F (.lc [i] (.cmp .eq (.var i) (.con (.int j))) (.nm i) (.rng (.cons (.con (.int n)) .nil)) .none)) f u s = f (.fr (.lst ((flagL n.toNat j).map D.bl))) s := by
  have hi : i < s.e.length := by
    by_cases hi : i < s.e.length
    · exact hi
    · simp -implicitDefEqProofs [noOwn, List.getElem?_eq_none (Nat.le_of_not_lt hi)] at h
  rw [bl_some (lc0 (List.range n.toNat) (fun (k : Nat) => D.int (k : Int)) (fun _ => true) (fun k => D.bl (decide ((k : Int) = j))) ?_ h (by simp -implicitDefEqProofs; omega) ?_)]
  · unfold flagL
    rw [List.filter_eq_self.mpr (fun _ _ => rfl), List.map_map]
    rfl
  · simp -implicitDefEqProofs [rng1 (j := n) rfl (by omega)]
  · intro d _
    refine ⟨⟨s.e.set i (some ⟨.sh, .int d⟩), s.c⟩, by simp -implicitDefEqProofs [wipeE, hi], by simp -implicitDefEqProofs [wipeE], rfl, by simp -implicitDefEqProofs, by simp -implicitDefEqProofs [hi]⟩
theorem zipD_map {α β : Type} {f : α → D} {g : β → D} : ∀ {la : List α} {lb : List β}, zipD (la.map f) (lb.map g) = (la.zip lb).map fun p => .tup [f p.1, g p.2]
  | [], _ => rfl
  | a :: la, [] => rfl
  | a :: la, b :: lb => by
    show D.tup [f a, g b] :: zipD (la.map f) (lb.map g) = _
    rw [zipD_map]
    rfl
/-! loops -/
def turn (t : Tg) (body : Sx → Option Fl) (d : D) (s : Sx) : Option Fl := turnB (asgT t d s) body
/-- the state behind a turn -/
def go (o : Option Fl) : Option Sx := match o with
  | some (.nx s) => some s
  | some (.cnt s) => some s
  | _ => none
@[simp] theorem go_nx {s : Sx} : go (some (.nx s)) = some s := rfl
@[simp] theorem go_cnt {s : Sx} : go (some (.cnt s)) = some s := rfl
theorem fo_of {o : Option Fl} {s : Sx} {f : Sx → Option Fl} (h : go o = some s) : fo o f = f s := by
  unfold go at h
  split at h <;> cases h <;> rfl
theorem forL_go {t : Tg} {body : Sx → Option Fl} {d : D} {ds : List D} {s s' : Sx} (h : go (turn t body d s) = some s') : forL t body (d :: ds) s = forL t body ds s' := by
  rw [forL_cons']
  exact fo_of h
theorem forL_inv {α : Type} {t : Tg} {body : Sx → Option Fl} {f : α → D} {l : List α} {s : Sx} {ds : List D} {x : Option Fl} (hx : forL t body ds s = x) (hd : ds = l.map f) (I : Nat → Sx → Prop) (h0 : I 0 s)
    (step : ∀ k (h : k < l.length) s, I k s → ∃ s', go (turn t body (f l[k]) s) = some s' ∧ I (k + 1) s') : ∃ s', x = some (.nx s') ∧ I l.length s' := by
  have gen : ∀ (r : List α) (k : Nat) (s : Sx), (∀ j (h : j < r.length), k + j < l.length ∧ l[k + j]? = some r[j]) → k + r.length = l.length → I k s → ∃ s', forL t body (r.map f) s = some (.nx s') ∧ I l.length s' := by
    intro r
    induction r with
    | nil =>
      intro k s _ hk hI
      have e : k = l.length := hk
      subst e
      exact ⟨s, rfl, hI⟩
    | cons a r ih =>
      intro k s hr hk hI
      have h := hr 0 (by simp)
      obtain ⟨s', e1, e2⟩ := step k h.1 s hI
      have ea : l[k] = a := by
        have e := h.2
        have hk' : k < l.length := h.1
        simp only [Nat.add_zero, List.getElem_cons_zero] at e
        rw [List.getElem?_eq_getElem hk'] at e
        exact Option.some.inj e
      rw [ea] at e1
      rw [List.map_cons, forL_go e1]
      refine ih (k + 1) s' (fun j hj => ?_) (by simp at hk; omega) e2
      have := hr (j + 1) (by simp; omega)
      simp only [List.getElem_cons_succ] at this
      rw [show k + 1 + j = k + (j + 1) by omega]
      exact this
  rw [hd] at hx
  obtain ⟨s', e1, e2⟩ := gen l 0 s (fun j h => ⟨by omega, by simp [h]⟩) (by simp) h0
  exact ⟨s', hx.symm.trans e1, e2⟩
theorem forL_range {t : Tg} {body : Sx → Option Fl} {n : Nat} {f : Nat → D} {s : Sx} {ds : List D} {x : Option Fl} (hx : forL t body ds s = x) (hd : ds = (List.range n).map f) (I : Nat → Sx → Prop) (h0 : I 0 s)
    (step : ∀ k, k < n → ∀ s, I k s → ∃ s', go (turn t body (f k) s) = some s' ∧ I (k + 1) s') : ∃ s', x = some (.nx s') ∧ I n s' := by
  have := forL_inv hx hd I h0 (fun k h s hI => by
    have hk : k < n := by simpa using h
    simpa using step k hk s hI)
  simpa using this
/-- what a turn ends the loop with -/
def stp : Option Fl → Option (Option Fl)
  | some (.brk s) => some (some (.nx s))
  | some (.ret r s) => some (some (.ret r s))
  | some (.exc n s) => some (some (.exc n s))
  | _ => none
@[simp] theorem stp_brk {s : Sx} : stp (some (.brk s)) = some (some (.nx s)) := rfl
@[simp] theorem stp_ret {r : R} {s : Sx} : stp (some (.ret r s)) = some (some (.ret r s)) := rfl
@[simp] theorem stp_exc {n : Str} {s : Sx} : stp (some (.exc n s)) = some (some (.exc n s)) := rfl
theorem fo_stp {o : Option Fl} {y : Option Fl} {f : Sx → Option Fl} (h : stp o = some y) : fo o f = y := by
  unfold stp at h
  split at h <;> cases h <;> rfl
/-- a loop that a turn may end -/
theorem forL_out {α : Type} {t : Tg} {body : Sx → Option Fl} {f : α → D} {l : List α} {s : Sx} {ds : List D} {x : Option Fl} (hx : forL t body ds s = x) (hd : ds = l.map f) (I : Nat → Sx → Prop) (Q : Option Fl → Prop) (h0 : I 0 s)
    (step : ∀ k (h : k < l.length) s, I k s → (∃ s', go (turn t body (f l[k]) s) = some s' ∧ I (k + 1) s') ∨ (∃ y, stp (turn t body (f l[k]) s) = some y ∧ Q y)) : (∃ s', x = some (.nx s') ∧ I l.length s') ∨ Q x := by
  have gen : ∀ (r : List α) (k : Nat) (s : Sx), (∀ j (h : j < r.length), k + j < l.length ∧ l[k + j]? = some r[j]) → k + r.length = l.length → I k s → (∃ s', forL t body (r.map f) s = some (.nx s') ∧ I l.length s') ∨ Q (forL t body (r.map f) s) := by
    intro r
    induction r with
    | nil =>
      intro k s _ hk hI
      have e : k = l.length := hk
      subst e
      exact .inl ⟨s, rfl, hI⟩
    | cons a r ih =>
      intro k s hr hk hI
      have h := hr 0 (by simp)
      have e0 := step k h.1 s hI
      have ea : l[k] = a := by
        have e := h.2
        have hk' : k < l.length := h.1
        simp only [Nat.add_zero, List.getElem_cons_zero] at e
        rw [List.getElem?_eq_getElem hk'] at e
        exact Option.some.inj e
      rw [ea] at e0
      rw [List.map_cons]
      rcases e0 with ⟨s', e1, e2⟩ | ⟨y, e1, e2⟩
      · rw [forL_go e1]
        refine ih (k + 1) s' (fun j hj => ?_) (by simp at hk; omega) e2
        have := hr (j + 1) (by simp; omega)
        simp only [List.getElem_cons_succ] at this
        rw [show k + 1 + j = k + (j + 1) by omega]
        exact this
      · refine .inr ?_
        rw [forL_cons', fo_stp (o := turnB (asgT t (f a) s) body) e1]
        exact e2
  rw [hd] at hx
  have := gen l 0 s (fun j h => ⟨by omega, by simp [h]⟩) (by simp) h0
  rw [hx] at this
  exact this
theorem forL_outR {t : Tg} {body : Sx → Option Fl} {n : Nat} {f : Nat → D} {s : Sx} {ds : List D} {x : Option Fl} (hx : forL t body ds s = x) (hd : ds = (List.range n).map f) (I : Nat → Sx → Prop) (Q : Option Fl → Prop) (h0 : I 0 s)
    (step : ∀ k, k < n → ∀ s, I k s → (∃ s', go (turn t body (f k) s) = some s' ∧ I (k + 1) s') ∨ (∃ y, stp (turn t body (f k) s) = some y ∧ Q y)) : (∃ s', x = some (.nx s') ∧ I n s') ∨ Q x := by
  have := forL_out hx hd I Q h0 (fun k h s hI => by
    have hk : k < n := by simpa using h
    simpa using step k hk s hI)
  simpa using this
theorem whl_inv {test : M Bool} {body : Sx → Option Fl} (I : Nat → Sx → Prop) (Q : Sx → Prop)
    (step : ∀ m s, I m s → (∃ s1, test s = some (.ok false s1) ∧ Q s1) ∨ ∃ s1 s2 m', test s = some (.ok true s1) ∧ go (body s1) = some s2 ∧ m' < m ∧ I m' s2) : ∀ {n m : Nat} {s : Sx} {x : Option Fl}, whlL test body n s = x → I m s → m < n → ∃ s', x = some (.nx s') ∧ Q s' := by
  intro n
  induction n with
  | zero => intro m s x _ _ h; omega
  | succ n ih =>
    intro m s x hx hI hm
    rw [whlL_succ] at hx
    rcases step m s hI with ⟨s1, h1, h2⟩ | ⟨s1, s2, m', h1, h2, h3, h4⟩
    · rw [h1] at hx
      exact ⟨s1, hx.symm, h2⟩
    · rw [h1] at hx
      dsimp only at hx
      rw [fo_of h2] at hx
      exact ih hx h4 (by omega)
end PV
set_option maxHeartbeats 4000000
namespace PV
open PySem PySem.Spec PyProof.Rows L2
def c_figures_of : Fn := ⟨1, 1, (.cons (.ifs (.cmp .eq (.sl (.var 0) .none (.some (.con (.int 1)))) (.con (.str "-"))) (.cons (.ret (.sl (.var 0) (.some (.con (.int 1))) .none))
    .nil) .nil)
    (.cons (.ret (.var 0))
    .nil))⟩
def c_number_told : Fn := ⟨1, 3, (.cons (.set 1 (.call false "figures_of" (.cons (.var 0) .nil)))
    (.cons (.ifs (.orr (.nt (.ch .le .le (.con (.int 1)) (.blt .len (.cons (.var 1) .nil)) (.con (.int 30)))) (.cmp .ne (.lc [2] (.var 2) (.nm 2) (.seq (.var 1)) (.some (.cmp .nmem (.var 2) (.con (.str "0123456789"))))) (.lst .nil))) (.cons (.rai "NoText")
    .nil) .nil)
    (.cons (.ifs (.an (.cmp .eq (.ix (.var 1) (.con (.int 0))) (.con (.str "0"))) (.cmp .ne (.var 0) (.con (.str "0")))) (.cons (.rai "NoText")
    .nil) .nil)
    (.cons (.ret (.blt .int (.cons (.var 0) .nil)))
    .nil))))⟩
def c_read_row : Fn := ⟨1, 2, (.cons (.ret (.lcx [1] (.call false "number_told" (.cons (.var 1) .nil)) (.nm 1) (.seq (.mt .split (.var 0) (.cons (.con (.str " ")) .nil)))))
    .nil)⟩
def c_law_stir : Fn := ⟨2, 3, (.cons (.ifs (.cmp .ge (.var 0) (.con (.int 1000000000000000000))) (.cons (.ret (.bin .mod (.bin .shr (.bin .sub (.var 0) (.con (.int 1000000000000000000))) (.bin .mul (.con (.int 28)) (.var 1))) (.con (.int 268435456))))
    .nil) .nil)
    (.cons (.set 2 (.bin .mod (.bin .mul (.bin .add (.bin .add (.var 0) (.bin .mul (.con (.int 1013)) (.var 1))) (.con (.int 1))) (.con (.int 16807))) (.con (.int 2147483647))))
    (.cons (.set 2 (.bin .mod (.bin .mul (.var 2) (.var 2)) (.con (.int 2147483629))))
    (.cons (.ret (.bin .fdiv (.bin .mod (.bin .mul (.var 2) (.con (.int 39373))) (.con (.int 2147483587))) (.con (.int 8))))
    .nil))))⟩
def c_law_row : Fn := ⟨2, 9, (.cons (.set 2 (.call false "_law_stir" (.cons (.var 0) (.cons (.con (.int 0)) .nil))))
    (.cons (.set 3 (.bin .add (.con (.int 1)) (.bin .mod (.bin .fdiv (.var 2) (.con (.int 4))) (.ix (.lst (.cons (.con (.int 3)) (.cons (.con (.int 12)) (.cons (.con (.int 40)) (.cons (.var 1) .nil))))) (.bin .mod (.var 2) (.con (.int 4)))))))
    (.cons (.set 4 (.bin .mod (.call false "_law_stir" (.cons (.var 0) (.cons (.con (.int 1)) .nil))) (.con (.int 6))))
    (.cons (.set 5 (.ix (.lst (.cons (.con (.int 1)) (.cons (.con (.int 3)) (.cons (.con (.int 20)) (.cons (.con (.int 1000000)) .nil))))) (.bin .mod (.bin .fdiv (.call false "_law_stir" (.cons (.var 0) (.cons (.con (.int 1)) .nil))) (.con (.int 8))) (.con (.int 4)))))
    (.cons (.set 6 (.lst .nil))
    (.cons (.for (.nm 7) (.rng (.cons (.var 3) .nil)) (.cons (.set 2 (.call false "_law_stir" (.cons (.var 0) (.cons (.bin .add (.con (.int 4)) (.var 7)) .nil))))
    (.cons (.set 8 (.bin .sub (.bin .mod (.bin .fdiv (.var 2) (.con (.int 16))) (.bin .add (.bin .mul (.con (.int 2)) (.var 5)) (.con (.int 1)))) (.var 5)))
    (.cons (.ifs (.cmp .eq (.var 4) (.con (.int 1))) (.cons (.set 8 (.bin .sub (.con (.int (-1))) (.blt .abs (.cons (.var 8) .nil))))
    .nil) .nil)
    (.cons (.ifs (.cmp .eq (.var 4) (.con (.int 2))) (.cons (.set 8 (.bin .mul (.var 8) (.blt .int (.cons (.cmp .eq (.bin .mod (.var 2) (.con (.int 3))) (.con (.int 0))) .nil))))
    .nil) .nil)
    (.cons (.ifs (.cmp .eq (.var 4) (.con (.int 3))) (.cons (.set 8 (.ix (.lst (.cons (.blt .abs (.cons (.var 8) .nil)) (.cons (.bin .sub (.con (.int 0)) (.blt .abs (.cons (.var 8) .nil))) .nil))) (.bin .mod (.var 7) (.con (.int 2)))))
    .nil) .nil)
    (.cons (.ifs (.cmp .eq (.var 4) (.con (.int 4))) (.cons (.set 8 (.bin .add (.bin .mul (.bin .sub (.bin .mod (.var 2) (.con (.int 1999999))) (.con (.int 999999))) (.con (.int 1000000000000000000000000))) (.var 8)))
    .nil) .nil)
    (.cons (.ex (.mt .append (.var 6) (.cons (.var 8) .nil)))
    .nil))))))))
    (.cons (.ret (.var 6))
    .nil)))))))⟩
def c_law_same : Fn := ⟨2, 4, (.cons (.ifs (.isi (.var 1) [.list, .tuple]) (.cons (.ifs (.orr (.cmp .ne (.isi (.var 0) [.list]) (.isi (.var 1) [.list])) (.nt (.isi (.var 0) [.list, .tuple]))) (.cons (.ret (.con (.bl false)))
    .nil) .nil)
    (.cons (.ifs (.cmp .ne (.blt .len (.cons (.var 0) .nil)) (.blt .len (.cons (.var 1) .nil))) (.cons (.ret (.con (.bl false)))
    .nil) .nil)
    (.cons (.ret (.cmp .eq (.lc [2, 3] (.con (.int 1)) (.tp [2, 3]) (.zip (.var 0) (.var 1)) (.some (.nt (.call false "_law_same" (.cons (.var 2) (.cons (.var 3) .nil)))))) (.lst .nil)))
    .nil))) .nil)
    (.cons (.ret (.an (.isi (.var 0) [.int]) (.an (.nt (.isi (.var 0) [.bool])) (.cmp .eq (.var 0) (.var 1)))))
    .nil))⟩
def c_law_text : Fn := ⟨1, 2, (.cons (.ret (.mt .join (.con (.str " ")) (.cons (.lc [1] (.blt .str (.cons (.var 1) .nil)) (.nm 1) (.seq (.var 0)) .none) .nil)))
    .nil)⟩
def c_law_refused : Fn := ⟨1, 3, (.cons (.set 1 (.lst .nil))
    (.cons (.tryx (.cons (.ex (.call false "read_row" (.cons (.var 0) .nil)))
    .nil) 2 [("NoText", [.setL 1 [false, false, false, false], .addL 1 [true, false, false], .addL 1 [false], .app 1 false])])
    (.cons (.ret (.var 1))
    .nil)))⟩
def c_law_due : Fn := ⟨1, 5, (.cons (.set 1 (.lst .nil))
    (.cons (.for (.nm 2) (.seq (.mt .split (.var 0) (.cons (.con (.str " ")) .nil))) (.cons (.set 3 (.sl (.var 2) (.some (.blt .int (.cons (.cmp .eq (.sl (.var 2) .none (.some (.con (.int 1)))) (.con (.str "-"))) .nil))) .none))
    (.cons (.ifs (.orr (.cmp .eq (.var 3) (.con (.str ""))) (.orr (.cmp .gt (.blt .len (.cons (.var 3) .nil)) (.con (.int 30))) (.cmp .ne (.lc [4] (.var 4) (.nm 4) (.seq (.var 3)) (.some (.cmp .nmem (.var 4) (.con (.str "0123456789"))))) (.lst .nil)))) (.cons (.ret (.lst .nil))
    .nil) .nil)
    (.cons (.ifs (.an (.cmp .eq (.ix (.var 3) (.con (.int 0))) (.con (.str "0"))) (.cmp .ne (.var 2) (.con (.str "0")))) (.cons (.ret (.lst .nil))
    .nil) .nil)
    (.cons (.ex (.mt .append (.var 1) (.cons (.ix (.lst (.cons (.blt .int (.cons (.var 3) .nil)) (.cons (.bin .sub (.con (.int 0)) (.blt .int (.cons (.var 3) .nil))) .nil))) (.blt .int (.cons (.cmp .eq (.ix (.var 2) (.con (.int 0))) (.con (.str "-"))) .nil))) .nil)))
    .nil)))))
    (.cons (.ret (.var 1))
    .nil)))⟩
def c_law_spoilt : Fn := ⟨3, 10, (.cons (.set 3 (.call false "_law_stir" (.cons (.var 0) (.cons (.var 1) .nil))))
    (.cons (.set 4 (.bin .mod (.call false "_law_stir" (.cons (.var 0) (.cons (.bin .add (.var 1) (.con (.int 1))) .nil))) (.con (.int 7))))
    (.cons (.set 5 (.bin .mod (.var 3) (.bin .add (.blt .len (.cons (.var 2) .nil)) (.con (.int 1)))))
    (.cons (.set 6 (.ix (.con (.str "0123456789 -+,.ax_\n")) (.bin .mod (.call false "_law_stir" (.cons (.var 0) (.cons (.bin .add (.var 1) (.con (.int 2))) .nil))) (.con (.int 19)))))
    (.cons (.ifs (.cmp .eq (.var 4) (.con (.int 0))) (.cons (.ret (.bin .add (.bin .add (.sl (.var 2) .none (.some (.var 5))) (.var 6)) (.sl (.var 2) (.some (.var 5)) .none)))
    .nil) .nil)
    (.cons (.ifs (.cmp .eq (.var 4) (.con (.int 1))) (.cons (.ret (.bin .add (.sl (.var 2) .none (.some (.var 5))) (.sl (.var 2) (.some (.bin .add (.var 5) (.con (.int 1)))) .none)))
    .nil) .nil)
    (.cons (.ifs (.cmp .eq (.var 4) (.con (.int 2))) (.cons (.ret (.bin .add (.bin .add (.sl (.var 2) .none (.some (.var 5))) (.var 6)) (.sl (.var 2) (.some (.bin .add (.var 5) (.con (.int 1)))) .none)))
    .nil) .nil)
    (.cons (.ifs (.cmp .eq (.var 4) (.con (.int 3))) (.cons (.ret (.bin .add (.bin .add (.sl (.var 2) .none (.some (.var 5))) (.bin .mul (.sl (.var 2) (.some (.var 5)) (.some (.bin .add (.var 5) (.con (.int 1))))) (.con (.int 2)))) (.sl (.var 2) (.some (.bin .add (.var 5) (.con (.int 1)))) .none)))
    .nil) .nil)
    (.cons (.ifs (.cmp .eq (.var 4) (.con (.int 4))) (.cons (.ret (.bin .add (.bin .add (.sl (.var 2) .none (.some (.var 5))) (.rev (.sl (.var 2) (.some (.var 5)) (.some (.bin .add (.var 5) (.con (.int 2))))))) (.sl (.var 2) (.some (.bin .add (.var 5) (.con (.int 2)))) .none)))
    .nil) .nil)
    (.cons (.set 7 (.lst (.cons (.con (.str "")) (.cons (.con (.str " ")) (.cons (.con (.str "0")) (.cons (.con (.str "00")) (.cons (.con (.str "01")) (.cons (.con (.str "-0")) (.cons (.con (.str "-01")) (.cons (.con (.str "--1")) (.cons (.con (.str "+1")) (.cons (.bin .add (.con (.str "1")) (.bin .mul (.con (.str "0")) (.con (.int 30)))) (.cons (.bin .add (.con (.str "-")) (.bin .mul (.con (.str "9")) (.con (.int 30)))) .nil)))))))))))))
    (.cons (.set 7 (.bin .add (.var 7) (.lst (.cons (.bin .mul (.con (.str "9")) (.con (.int 5000))) (.cons (.con (.str "-")) (.cons (.con (.str "x")) (.cons (.con (.str "1_0")) .nil)))))))
    (.cons (.set 8 (.ix (.var 7) (.bin .mod (.call false "_law_stir" (.cons (.var 0) (.cons (.bin .add (.var 1) (.con (.int 2))) .nil))) (.con (.int 15)))))
    (.cons (.set 9 (.ix (.lst (.cons (.con (.str "")) (.cons (.con (.str " ")) .nil))) (.bin .mod (.call false "_law_stir" (.cons (.var 0) (.cons (.bin .add (.var 1) (.con (.int 3))) .nil))) (.con (.int 2)))))
    (.cons (.ifs (.cmp .eq (.var 4) (.con (.int 5))) (.cons (.ret (.bin .add (.bin .add (.bin .add (.sl (.var 2) .none (.some (.var 5))) (.var 8)) (.var 9)) (.sl (.var 2) (.some (.var 5)) .none)))
    .nil) .nil)
    (.cons (.ret (.bin .add (.bin .add (.var 2) (.var 9)) (.var 8)))
    .nil)))))))))))))))⟩
def c_law : Fn := ⟨1, 6, (.cons (.set 1 (.sl (.var 0) .none (.some (.con (.int 16)))))
    (.cons (.ifs (.cmp .eq (.var 1) (.lst .nil)) (.cons (.set 1 (.lst (.cons (.con (.int 0)) .nil)))
    .nil) .nil)
    (.cons (.for (.nm 2) (.seq (.var 1)) (.cons (.set 3 (.call false "_law_text" (.cons (.call false "_law_row" (.cons (.var 2) (.cons (.con (.int 200)) .nil))) .nil)))
    (.cons (.ifs (.cmp .eq (.bin .mod (.call false "_law_stir" (.cons (.var 2) (.cons (.con (.int 300)) .nil))) (.con (.int 5))) (.con (.int 0))) (.cons (.set 3 (.con (.str "")))
    .nil) .nil)
    (.cons (.ifs (.cmp .gt (.bin .mod (.call false "_law_stir" (.cons (.var 2) (.cons (.con (.int 301)) .nil))) (.con (.int 4))) (.con (.int 0))) (.cons (.set 3 (.call false "_law_spoilt" (.cons (.var 2) (.cons (.con (.int 302)) (.cons (.var 3) .nil)))))
    .nil) .nil)
    (.cons (.ifs (.cmp .eq (.bin .mod (.call false "_law_stir" (.cons (.var 2) (.cons (.con (.int 301)) .nil))) (.con (.int 2))) (.con (.int 1))) (.cons (.set 3 (.call false "_law_spoilt" (.cons (.var 2) (.cons (.con (.int 306)) (.cons (.var 3) .nil)))))
    .nil) .nil)
    (.cons (.set 4 (.call false "_law_due" (.cons (.var 3) .nil)))
    (.cons (.ifs (.cmp .ne (.call false "_law_refused" (.cons (.var 3) .nil)) (.lc [5] (.cmp .eq (.var 5) (.con (.int 4))) (.nm 5) (.rng (.cons (.ix (.lst (.cons (.con (.int 0)) (.cons (.con (.int 9)) .nil))) (.blt .int (.cons (.cmp .eq (.var 4) (.lst .nil)) .nil))) .nil)) .none)) (.cons (.ret (.con (.bl false)))
    .nil) .nil)
    (.cons (.ifs (.an (.cmp .ne (.var 4) (.lst .nil)) (.nt (.call false "_law_same" (.cons (.call false "read_row" (.cons (.var 3) .nil)) (.cons (.var 4) .nil))))) (.cons (.ret (.con (.bl false)))
    .nil) .nil)
    .nil))))))))
    (.cons (.ret (.con (.bl true)))
    .nil))))⟩
def tab : List (Str × Fn) := [(("figures_of" : Str), c_figures_of), (("number_told" : Str), c_number_told), (("read_row" : Str), c_read_row), (("_law_stir" : Str), c_law_stir), (("_law_row" : Str), c_law_row), (("_law_same" : Str), c_law_same), (("_law_text" : Str), c_law_text), (("_law_refused" : Str), c_law_refused), (("_law_due" : Str), c_law_due), (("_law_spoilt" : Str), c_law_spoilt), (("law" : Str), c_law)]
def tbl : Tbl := fun f => tab.lookup f
theorem t_figures_of : tbl "figures_of" = some c_figures_of := by kernel_rfl
theorem t_number_told : tbl "number_told" = some c_number_told := by kernel_rfl
theorem t_read_row : tbl "read_row" = some c_read_row := by kernel_rfl
theorem t_law_stir : tbl "_law_stir" = some c_law_stir := by kernel_rfl
theorem t_law_row : tbl "_law_row" = some c_law_row := by kernel_rfl
theorem t_law_same : tbl "_law_same" = some c_law_same := by kernel_rfl
theorem t_law_text : tbl "_law_text" = some c_law_text := by kernel_rfl
theorem t_law_refused : tbl "_law_refused" = some c_law_refused := by kernel_rfl
theorem t_law_due : tbl "_law_due" = some c_law_due := by kernel_rfl
theorem t_law_spoilt : tbl "_law_spoilt" = some c_law_spoilt := by kernel_rfl
theorem t_law : tbl "law" = some c_law := by kernel_rfl
end PV
namespace PV
open PySem PySem.Spec PyProof.Rows L2
theorem at4 {a b c d n : Int} : ∃ m, (m = a ∨ m = b ∨ m = c ∨ m = d) ∧ atD [.int a, .int b, .int c, .int d] (n % 4) = some (.int m) := by
  have h : n % 4 = 0 ∨ n % 4 = 1 ∨ n % 4 = 2 ∨ n % 4 = 3 := by omega
  rcases h with h | h | h | h <;> rw [h]
  · exact ⟨a, .inl rfl, rfl⟩
  · exact ⟨b, .inr (.inl rfl), rfl⟩
  · exact ⟨c, .inr (.inr (.inl rfl)), rfl⟩
  · exact ⟨d, .inr (.inr (.inr rfl)), rfl⟩
theorem at2i {a b : Int} {n : Int} : atD [.int a, .int b] (n % 2) = some (.int (if n % 2 = 0 then a else b)) := by
  have h : n % 2 = 0 ∨ n % 2 = 1 := by omega
  rcases h with h | h <;> rw [h] <;> rfl
theorem cut_len_le {α : Type} {xs : List α} {lo hi : Option Int} : (cut xs lo hi).length ≤ xs.length := by
  unfold cut
  rw [List.length_take, List.length_drop]
  omega
def stir (c k : Int) : Int := if 1000000000000000000 ≤ c then (c - 1000000000000000000) / 2 ^ (28 * k).toNat % 268435456 else
  let n := (c + 1013 * k + 1) * 16807 % 2147483647
  let n := n * n % 2147483629
  n * 39373 % 2147483587 / 8
theorem stir_nonneg {c k : Int} : 0 ≤ stir c k := by
  unfold stir
  split
  · omega
  · dsimp only
    omega
theorem law_stir_ok {n : Nat} {c k : Int} {cs : List (List D)} (h : 0 ≤ k) :
    callD tbl (n + 1) "_law_stir" [⟨.sh, .int c⟩, ⟨.sh, .int k⟩] cs = some (.ok false (.int (stir c k)) cs) := by
  rw [callD_of t_law_stir rfl]
  unfold stir
  by_cases hc : 1000000000000000000 ≤ c
  · have h28 : (0 : Int) ≤ 28 * k := by omega
    simp [hc, mulOk_l, h28]
  · have m1 : ∀ x : Int, mulOk x 16807 = true := fun x => mulOk_r (by omega)
    have m2 : ∀ x : Int, mulOk (x % 2147483647) (x % 2147483647) = true := fun x => mulOk_r (by omega)
    have m3 : ∀ x : Int, mulOk x 39373 = true := fun x => mulOk_r (by omega)
    have m4 : ∀ x : Int, mulOk 1013 x = true := fun x => mulOk_l (by omega)
    simp [hc, m1, m2, m3, m4]
def SameAt (T : Tbl) (n : Nat) (d d' : D) (b : Bool) : Prop := ∀ κ κ' cs, κ ≠ .ow → κ' ≠ .ow → callD T n "_law_same" [⟨κ, d⟩, ⟨κ', d'⟩] cs = some (.ok false (.bl b) cs)
theorem SameAt.int {n : Nat} {a b : Int} : SameAt tbl (n + 1) (.int a) (.int b) (decide (a = b)) := fun κ κ' cs h h' => by
  rw [callD_of t_law_same rfl]
  simp [h, h', isTy]
theorem zip_eq {α : Type} [DecidableEq α] : ∀ {la lb : List α}, la.length = lb.length → ((((la.zip lb).filter fun p => !decide (p.1 = p.2)).map fun _ => (1 : Int)) = [] ↔ la = lb)
  | [], [], _ => by simp
  | a :: la, b :: lb, h => by
    have ih := zip_eq (la := la) (lb := lb) (by simpa using h)
    by_cases e : a = b
    · subst e
      simpa using ih
    · simp [e]
theorem SameAt.lst {n : Nat} {α : Type} [DecidableEq α] {f : α → D} {la lb : List α} (h : ∀ a b, SameAt tbl n (f a) (f b) (decide (a = b))) (hl : la.length ≤ 16777216) : SameAt tbl (n + 1) (.lst (la.map f)) (.lst (lb.map f)) (decide (la = lb)) := fun κ κ' cs h1 h2 => by
  rw [callD_of t_law_same rfl]
  by_cases hn : la.length = lb.length
  · simp [h1, h2, hn]
    rw [bl_some (lc0 (la.zip lb) (fun p => .tup [f p.1, f p.2]) (fun p => !decide (p.1 = p.2)) (fun _ => .int 1) ?_ ?_ ?_ ?_)]
    · have := eqD_ints (ns := ((la.zip lb).filter fun p => !decide (p.1 = p.2)).map fun _ => (1 : Int)) (ms := [])
      rw [List.map_map] at this
      have e : (D.int ∘ fun (_ : α × α) => (1 : Int)) = fun _ => D.int 1 := rfl
      rw [e] at this
      have this : eqD (.lst (List.map (fun _ => D.int 1) (List.filter (fun p => !decide (p.fst = p.snd)) (la.zip lb)))) (.lst []) = some (decide (la = lb)) := by
        refine this.trans (congrArg some ?_)
        exact decide_eq_decide.mpr (zip_eq hn)
      simp [this]
    · simp [zipM_nn, h1, h2]
      rw [← zipD_map]
      exact zipM_nn rfl rfl rfl rfl h1 h2
    · simp [noOwn]
    · simp; omega
    · intro d hd
      simp only [wipeE, List.set_cons_succ, List.set_cons_zero]
      exact ⟨_, by simp; rfl, by simp [wipeE], rfl, by simp [h _ _ .sh .sh _ (by decide) (by decide)], by simp⟩
  · have hne : la ≠ lb := fun e => hn (by rw [e])
    have : ¬ (la.length : Int) = lb.length := by omega
    simp [h1, h2, hne, hn, this]
theorem SameAt.tup {n : Nat} {α : Type} [DecidableEq α] {f : α → D} {la lb : List α} (h : ∀ a b, SameAt tbl n (f a) (f b) (decide (a = b))) (hl : la.length ≤ 16777216) : SameAt tbl (n + 1) (.tup (la.map f)) (.tup (lb.map f)) (decide (la = lb)) := fun κ κ' cs h1 h2 => by
  rw [callD_of t_law_same rfl]
  by_cases hn : la.length = lb.length
  · simp [h1, h2, hn]
    rw [bl_some (lc0 (la.zip lb) (fun p => .tup [f p.1, f p.2]) (fun p => !decide (p.1 = p.2)) (fun _ => .int 1) ?_ ?_ ?_ ?_)]
    · have := eqD_ints (ns := ((la.zip lb).filter fun p => !decide (p.1 = p.2)).map fun _ => (1 : Int)) (ms := [])
      rw [List.map_map] at this
      have e : (D.int ∘ fun (_ : α × α) => (1 : Int)) = fun _ => D.int 1 := rfl
      rw [e] at this
      have this : eqD (.lst (List.map (fun _ => D.int 1) (List.filter (fun p => !decide (p.fst = p.snd)) (la.zip lb)))) (.lst []) = some (decide (la = lb)) := by
        refine this.trans (congrArg some ?_)
        exact decide_eq_decide.mpr (zip_eq hn)
      simp [this]
    · simp [h1, h2]
      rw [← zipD_map]
      exact zipM_tt rfl rfl
    · simp [noOwn]
    · simp; omega
    · intro d hd
      simp only [wipeE, List.set_cons_succ, List.set_cons_zero]
      exact ⟨_, by simp; rfl, by simp [wipeE], rfl, by simp [h _ _ .sh .sh _ (by decide) (by decide)], by simp⟩
  · have hne : la ≠ lb := fun e => hn (by rw [e])
    have : ¬ (la.length : Int) = lb.length := by omega
    simp [h1, h2, hne, hn, this]
theorem cut_hi {α : Type} {xs : List α} {p : Nat} (hp : p ≤ xs.length) : cut xs none (some (p : Int)) = xs.take p := by
  unfold cut
  have h2 : sIx xs.length xs.length (some (p : Int)) = p := by
    show (if (p : Int) < 0 then ((p : Int) + (xs.length : Int)).toNat else min (p : Int).toNat xs.length) = p
    rw [if_neg (by omega)]
    omega
  rw [h2]
  show (xs.drop 0).take (p - 0) = _
  rw [List.drop_zero, Nat.sub_zero]
theorem cut_lo {α : Type} {xs : List α} {p : Nat} (hp : p ≤ xs.length) : cut xs (some (p : Int)) none = xs.drop p := by
  unfold cut
  have h2 : sIx xs.length 0 (some (p : Int)) = p := by
    show (if (p : Int) < 0 then ((p : Int) + (xs.length : Int)).toNat else min (p : Int).toNat xs.length) = p
    rw [if_neg (by omega)]
    omega
  rw [h2]
  show ((xs.drop p).take (xs.length - p)) = _
  rw [← List.length_drop, List.take_length]
def t3 (x : Int × Int × Int) : D := .tup [.int x.1, .int x.2.1, .int x.2.2]
def b3 (a w c : Nat) (x y z : Int) : List Int := List.replicate a x ++ (List.replicate w y ++ List.replicate c z)
/-! several stretches apart -/
/-- the greater of two, either perhaps none -/
def mo : Option Int → Option Int → Option Int
  | none, y => y
  | some x, none => some x
  | some x, some y => some (max x y)
/-- the greatest that ends there or ahead -/
def fr (E : Nat → Option Int) : Nat → Option Int
  | 0 => none
  | i + 1 => mo (fr E i) (E (i + 1))
def gt0 (L : List (Option Int)) (i : Nat) : Option Int := L.getD i none
def lst (E : Nat → Option Int) (L : List (Option Int)) (i : Nat) : Option Int := if i = 0 then E 0 else mo (E i) (gt0 L (i - 1))
/-! texts -/
/-- the text of these signs -/
def tx (l : List Nat) : Str := ⟨l.toArray⟩
theorem tx_tl {l : List Nat} : TL.tl (tx l) = l := rfl
theorem tl_tx {x : Str} : tx (TL.tl x) = x := TL.mk_tl x
theorem tx_inj {a b : List Nat} (h : tx a = tx b) : a = b := congrArg TL.tl h
theorem tx_len {l : List Nat} : (tx l).length = l.length := TL.len_tl (tx l)
theorem blt_len_tx {l : List Nat} (h : l.length ≤ 16777216) : bltD .len [.str (tx l)] = some (.sh (.int l.length)) := by
  rw [blt_lens, tx_len, if_pos h]
theorem sl_tx {l : List Nat} {lo hi : Option Int} (h : l.length ≤ 16777216) : slD (.str (tx l)) lo hi = some (.sh (.str (tx (cut l lo hi)))) := by
  rw [slD_str, tx_len, if_pos h]
  rfl
theorem ix_tx {l : List Nat} {i : Int} {j : Nat} (h : l.length ≤ 16777216) (e : i = j) (hj : j < l.length) : ixD (.str (tx l)) (.int i) = some (.str (tx [l.getD j 0])) := by
  subst e
  show (if (tx l).length ≤ 16777216 then match L2.atI l (j : Int) with
    | some c => some (D.str ⟨#[c]⟩)
    | none => none else none) = _
  have e1 : L2.atI l (j : Int) = some (l.getD j 0) := by
    unfold L2.atI L2.ixN
    rw [if_pos (by omega), if_pos (by omega)]
    simp [hj]
  rw [tx_len, if_pos h, e1]
  rfl
/-- signs that texts are of -/
def Asc (l : List Nat) : Prop := ∀ c ∈ l, c < 1000
theorem Asc.ok {l : List Nat} (h : Asc l) : PyData.strOk (tx l) = true := by
  show (tx l).cps.all (· < 0x110000) = true
  rw [← Array.all_toList, List.all_eq_true]
  intro c hc
  have := h c hc
  exact decide_eq_true (by omega)
theorem Asc.cut {l : List Nat} (h : Asc l) (lo hi : Option Int) : Asc (PV.cut l lo hi) := fun c hc => h c (List.mem_of_mem_drop (List.mem_of_mem_take hc))
theorem Asc.app {a b : List Nat} (h : Asc a) (h' : Asc b) : Asc (a ++ b) := fun c hc => (List.mem_append.mp hc).elim (h c) (h' c)
theorem EqTo.str : EqTo (α := {x : Str // PyData.strOk x = true}) (fun x => D.str x.1) (fun x => PyData.str x.1) 0 := ⟨fun _ => rfl, fun a => a.2, fun _ => Nat.le_refl 0, fun a b => by
  simp only [PyData.eqv]
  rcases a with ⟨a, ha⟩
  rcases b with ⟨b, hb⟩
  by_cases h : a = b <;> simp [h]⟩
theorem eqD_str {x y : Str} (hx : PyData.strOk x = true) (hy : PyData.strOk y = true) : eqD (.str x) (.str y) = some (decide (x = y)) := by
  rw [show eqD (.str x) (.str y) = _ from EqTo.str.eqD (by decide) ⟨x, hx⟩ ⟨y, hy⟩]
  simp
theorem eq_tx {a b : List Nat} (ha : Asc a) (hb : Asc b) : cop .eq (.str (tx a)) (.str (tx b)) = some (decide (a = b)) := by
  show eqD (.str (tx a)) (.str (tx b)) = _
  rw [eqD_str ha.ok hb.ok]
  exact congrArg some (decide_eq_decide.mpr ⟨tx_inj, fun e => by rw [e]⟩)
theorem ne_tx {a b : List Nat} (ha : Asc a) (hb : Asc b) : cop .ne (.str (tx a)) (.str (tx b)) = some (!decide (a = b)) := by
  show (eqD (.str (tx a)) (.str (tx b))).map (!·) = _
  rw [eqD_str ha.ok hb.ok]
  exact congrArg (fun z => some (!z)) (decide_eq_decide.mpr ⟨tx_inj, fun e => by rw [e]⟩)
theorem eqD_txs {l m : List (List Nat)} (hl : ∀ w ∈ l, Asc w) (hm : ∀ w ∈ m, Asc w) : eqD (.lst (l.map fun w => .str (tx w))) (.lst (m.map fun w => .str (tx w))) = some (decide (l = m)) := by
  have at' : ∀ (k : List (List Nat)) (hk : ∀ w ∈ k, Asc w), ∃ k' : List {x : Str // PyData.strOk x = true}, k'.map (·.1) = k.map tx := fun k hk => by
    induction k with
    | nil => exact ⟨[], rfl⟩
    | cons w k ih =>
      obtain ⟨k', e⟩ := ih fun v hv => hk v (by simp [hv])
      exact ⟨⟨tx w, (hk w (by simp)).ok⟩ :: k', by rw [List.map_cons, e]; rfl⟩
  obtain ⟨l', el⟩ := at' l hl
  obtain ⟨m', em⟩ := at' m hm
  have h1 : (l.map fun w => D.str (tx w)) = l'.map fun x => D.str x.1 := by
    have := congrArg (List.map D.str) el
    rw [List.map_map, List.map_map] at this
    exact this.symm
  have h2 : (m.map fun w => D.str (tx w)) = m'.map fun x => D.str x.1 := by
    have := congrArg (List.map D.str) em
    rw [List.map_map, List.map_map] at this
    exact this.symm
  rw [h1, h2, show eqD _ _ = _ from EqTo.str.lst.eqD (by decide) l' m']
  refine congrArg some (decide_eq_decide.mpr ⟨fun e => ?_, fun e => ?_⟩)
  · rw [e, em] at el
    exact (List.map_inj_right fun a b h => tx_inj h).mp el.symm
  · rw [e, ← em] at el
    exact (List.map_inj_right fun a b h => Subtype.ext h).mp el
theorem ne_chs {l : List Nat} (h : Asc l) : cop .ne (.lst (l.map fun c => .str (tx [c]))) (.lst []) = some (!decide (l = [])) := by
  show (eqD (.lst (l.map fun c => .str (tx [c]))) (.lst [])).map (!·) = _
  have := eqD_txs (l := l.map fun c => [c]) (m := []) (fun w hw => by
    obtain ⟨c, hc, rfl⟩ := List.mem_map.mp hw
    intro d hd
    rw [List.mem_singleton.mp hd]
    exact h c hc) (fun w hw => nomatch hw)
  rw [List.map_map] at this
  have this : eqD (.lst (l.map fun c => .str (tx [c]))) (.lst []) = some (decide ((l.map fun c => [c]) = [])) := this
  rw [this]
  simp
theorem nmem_tx {c : Nat} {l : List Nat} : cop .nmem (.str (tx [c])) (.str (tx l)) = some (!decide (c ∈ l)) := by
  rw [cop_nmems]
  exact congrArg (fun z => some (!z)) (PySem.StrLaws.found_one (tx l) c)
theorem strsOf_map {α : Type} {f : α → Str} {l : List α} : strsOf (l.map fun a => .str (f a)) = some (l.map f) := by
  induction l with
  | nil => rfl
  | cons a l ih =>
    show (match strsOf (l.map fun a => .str (f a)) with
      | some is => some (f a :: is)
      | none => none) = _
    rw [ih]
    rfl
theorem join_tx {a : List Nat} {l : List (List Nat)} (h : (l.map List.length).sum + l.length * a.length ≤ 16777216) : mthD .join (.str (tx a)) [.lst (l.map fun w => .str (tx w))] = some (.sh (.str (tx (TL.joinL a l)))) := by
  show (match strsOf (l.map fun w => .str (tx w)) with
    | some ys => if (ys.map fun y : Str => y.length).sum + ys.length * (tx a).length ≤ 16777216 then some (R.sh (.str (Txt.join (tx a) ys))) else none
    | none => none) = _
  rw [strsOf_map]
  dsimp only
  have e1 : ((l.map tx).map fun y : Str => y.length) = l.map List.length := by
    rw [List.map_map]
    exact List.map_congr_left fun w _ => tx_len
  rw [e1, List.length_map, tx_len, if_pos h]
  congr 3
  refine TL.ext_tl ?_
  rw [TL.join_eq, TL.tl_join, List.map_map]
  show TL.joinL a (l.map (TL.tl ∘ tx)) = TL.joinL a l
  congr 1
  exact (List.map_congr_left fun w _ => rfl).trans (List.map_id _)
/-- the words of a text -/
def wrds (t : List Nat) : List (List Nat) := TL.spl [32] 0 [] t
theorem split_tx {t : List Nat} (h : t.length + 2 ≤ 16777216) : mthD .split (.str (tx t)) [.str (tx [32])] = some (.fr (.lst ((wrds t).map fun w => .str (tx w)))) := by
  show (if ((tx [32]).length == 0) = false ∧ (tx t).length + 2 ≤ 16777216 then some (R.fr (.lst ((Txt.split (tx t) (tx [32])).map D.str))) else none) = _
  rw [if_pos ⟨rfl, by rw [tx_len]; exact h⟩]
  have e := TL.split_spl (tx t) (tx [32]) (by decide) (TL.kind_ok (by decide +kernel))
  have e2 : Txt.split (tx t) (tx [32]) = (wrds t).map tx := by
    refine TL.map_tl_inj (e.trans ?_)
    rw [List.map_map]
    exact ((List.map_congr_left fun w _ => rfl).trans (List.map_id _)).symm
  rw [e2, List.map_map]
  rfl
/-- the word of a number -/
def wd (i : Int) : List Nat := if i < 0 then 45 :: TL.numL i.natAbs else TL.numL i.natAbs
theorem str_wd (i : Int) : Str.ofString (toString i) = tx (wd i) := by
  refine TL.ext_tl ?_
  rw [tx_tl]
  cases i with
  | ofNat n =>
    rw [show wd (Int.ofNat n) = TL.numL n by unfold wd; rw [if_neg (show ¬ Int.ofNat n < 0 from Int.not_lt.mpr (Int.natCast_nonneg n))]; rfl]
    exact TL.tl_num n
  | negSucc n =>
    rw [show wd (Int.negSucc n) = 45 :: TL.numL (n + 1) by unfold wd; rw [if_pos (Int.negSucc_lt_zero n)]; rfl, TL.tl_ofString]
    have e : (toString (Int.negSucc n)).toList = '-' :: (toString (n + 1)).toList := by
      show ("-" ++ toString (n + 1)).toList = _
      rw [String.toList_append]
      rfl
    rw [e, List.map_cons]
    have := TL.tl_num (n + 1)
    rw [TL.tl_ofString] at this
    rw [← this]
    rfl
theorem blt_str_wd {i : Int} (h : -10 ^ 100 < i ∧ i < 10 ^ 100) : bltD .str [.int i] = some (.sh (.str (tx (wd i)))) := by
  have hl : i.natAbs.log2 < 1920 := by
    by_cases h0 : i.natAbs = 0
    · rw [h0]
      decide
    · refine (Nat.log2_lt h0).mpr ?_
      have h1 : i.natAbs < 10 ^ 100 := by omega
      exact Nat.lt_of_lt_of_le h1 (by decide +kernel)
  rw [blt_str, if_pos hl, str_wd]
def FIG : List Nat := [48, 49, 50, 51, 52, 53, 54, 55, 56, 57]
theorem mem_fig {c : Nat} : c ∈ FIG ↔ 48 ≤ c ∧ c ≤ 57 := by
  unfold FIG
  simp
  omega
theorem lit_fig : Str.ofString "0123456789" = tx FIG := by decide +kernel
theorem lit_minus : Str.ofString "-" = tx [45] := by decide +kernel
theorem lit_blank : Str.ofString " " = tx [32] := by decide +kernel
theorem lit_0 : Str.ofString "0" = tx [48] := by decide +kernel
theorem wd_fig {i : Int} {c : Nat} (h : c ∈ wd i) : c = 45 ∨ (48 ≤ c ∧ c ≤ 57) := by
  unfold wd at h
  split at h
  · rcases List.mem_cons.mp h with h | h
    · exact .inl h
    · exact .inr (TL.numL_digits _ c h)
  · exact .inr (TL.numL_digits _ c h)
theorem wd_len {i : Int} {k : Nat} (hk : 0 < k) (h : i.natAbs < 10 ^ k) : (wd i).length ≤ k + 1 := by
  have := TL.numL_len hk h
  unfold wd
  split
  · rw [List.length_cons]
    omega
  · omega
/-! a number's word read -/
def figs (w : List Nat) : List Nat := if cut w none (some 1) = [45] then cut w (some 1) none else w
def NumOk (w : List Nat) : Prop := (1 ≤ (figs w).length ∧ (figs w).length ≤ 30) ∧ (∀ c ∈ figs w, c ∈ FIG) ∧ ¬ ((figs w).getD 0 0 = 48 ∧ w ≠ [48])
instance {w : List Nat} : Decidable (NumOk w) := by
  unfold NumOk
  infer_instance
def numV (w : List Nat) : Int := if cut w none (some 1) = [45] then -((NumText.digitsVal (cut w (some 1) none) : Nat) : Int) else ((NumText.digitsVal w : Nat) : Int)
theorem cut1_hi {w : List Nat} : cut w none (some 1) = w.take 1 := by
  cases w with
  | nil => rfl
  | cons a l =>
    have := cut_hi (xs := a :: l) (p := 1) (by simp)
    exact this
theorem cut1_lo {w : List Nat} : cut w (some 1) none = w.drop 1 := by
  cases w with
  | nil => rfl
  | cons a l =>
    have := cut_lo (xs := a :: l) (p := 1) (by simp)
    exact this
theorem figures_of_ok {n : Nat} {κ : Kd} {w : List Nat} {cs : List (List D)} (hκ : κ = .sh) (hA : Asc w) (h : w.length ≤ 1000000) : callD tbl (n + 1) "figures_of" [⟨κ, .str (tx w)⟩] cs = some (.ok false (.str (tx (figs w))) cs) := by
  subst hκ
  rw [callD_of t_figures_of rfl]
  have h1 := sl_tx (l := w) (lo := none) (hi := some 1) (by omega)
  have h2 := sl_tx (l := w) (lo := some 1) (hi := none) (by omega)
  have h3 := hA.cut none (some 1)
  have h4 : Asc [45] := by unfold Asc; decide
  have hq := eq_tx h3 h4
  by_cases hc : cut w none (some 1) = [45]
  · have hf : figs w = cut w (some 1) none := if_pos hc
    rw [hc] at h1 hq
    simp -implicitDefEqProofs -dsimp (maxSteps := 2000000) [h1, h2, lit_minus, hq, hf]
  · have hf : figs w = w := if_neg hc
    simp -implicitDefEqProofs -dsimp (maxSteps := 2000000) [h1, h2, lit_minus, hq, hc, hf]
theorem numV_int {w : List Nat} (h : NumOk w) (hl : w.length ≤ 640) : bltD .int [.str (tx w)] = some (.sh (.int (numV w))) := by
  obtain ⟨⟨h1, h2⟩, h3, h4⟩ := h
  refine blt_ints ?_ (by rw [tx_len]; exact hl)
  unfold numV
  unfold figs at h1 h2 h3
  by_cases hc : cut w none (some 1) = [45]
  · rw [if_pos hc]
    rw [if_pos hc] at h1 h2 h3
    refine intText_neg (cs := cut w (some 1) none) ?_ (fun c hm => mem_fig.mp (h3 c hm)) (fun e => by rw [e] at h1; simp at h1) (by rw [tx_len]; omega)
    show w = _
    rw [cut1_hi] at hc
    rw [cut1_lo]
    cases w with
    | nil => cases hc
    | cons a l =>
      cases hc
      rfl
  · rw [if_neg hc]
    rw [if_neg hc] at h1 h2 h3
    exact intText_digits (fun c hm => mem_fig.mp (h3 c hm)) (fun e => by
      have e : w = [] := e
      rw [e] at h1
      simp at h1) (by rw [tx_len]; omega)
theorem number_told_ok {n : Nat} {w : List Nat} {cs : List (List D)} (hA : Asc w) (h : w.length ≤ 1000000) : callD tbl (n + 2) "number_told" [⟨.sh, .str (tx w)⟩] cs = if NumOk w then some (.ok false (.int (numV w)) cs) else some (.exc "NoText" cs) := by
  rw [callD_of t_number_told rfl]
  have q := fun cc => figures_of_ok (n := n) (κ := .sh) (w := w) (cs := cc) rfl hA h
  have hfl : (figs w).length ≤ w.length := by
    unfold figs
    split
    · exact cut_len_le
    · exact Nat.le_refl _
  have hl := blt_len_tx (l := figs w) (by omega)
  have hAf : Asc (figs w) := by
    unfold figs
    split
    · exact hA.cut _ _
    · exact hA
  obtain ⟨f, hf⟩ : ∃ f, f = figs w := ⟨_, rfl⟩
  have hN : NumOk w ↔ (1 ≤ f.length ∧ f.length ≤ 30) ∧ (∀ c ∈ f, c ∈ FIG) ∧ ¬ (f.getD 0 0 = 48 ∧ w ≠ [48]) := by rw [hf]; exact Iff.rfl
  rw [← hf] at q hl hfl hAf
  by_cases h1 : 1 ≤ f.length
  · have h1' : (1 : Int) ≤ f.length := by omega
    by_cases h2 : f.length ≤ 30
    · have h2' : (f.length : Int) ≤ 30 := by omega
      simp -implicitDefEqProofs -dsimp (maxSteps := 2000000) [q, hl, h1', h2']
      rw [bl_some (lc0 f (fun c => .str (tx [c])) (fun c => !decide (c ∈ FIG)) (fun c => .str (tx [c])) ?_ ?_ ?_ ?_)]
      · have hn := ne_chs (l := f.filter fun c => !decide (c ∈ FIG)) fun c hc => hAf c (List.mem_filter.mp hc).1
        by_cases h3 : ∀ c ∈ f, c ∈ FIG
        · have hz : (f.filter fun c => !decide (c ∈ FIG)) = [] := List.filter_eq_nil_iff.mpr fun c hc => by simp [h3 c hc]
          rw [hz] at hn
          rw [hz]
          have eqf := eq_tx (a := [f.getD 0 0]) (b := [48]) (fun c hc => by rw [List.mem_singleton.mp hc]; exact hAf _ (by rw [List.getD_eq_getElem?_getD, List.getElem?_eq_getElem (by omega)]; exact List.getElem_mem _)) (by unfold Asc; decide)
          have new := ne_tx (a := w) (b := [48]) hA (by unfold Asc; decide)
          have hi := ix_tx (l := f) (i := 0) (j := 0) (by omega) rfl (by omega)
          by_cases h4 : f.getD 0 0 = 48
          · rw [h4] at hi eqf
            by_cases h5 : w = [48]
            · have hok : NumOk w := hN.mpr ⟨⟨h1, h2⟩, h3, fun z => z.2 h5⟩
              have hv := numV_int hok (by rw [h5]; decide)
              subst h5
              simp -implicitDefEqProofs -dsimp (maxSteps := 2000000) [hn, hi, lit_0, eqf, new, hok, hv]
            · have hno : ¬ NumOk w := fun z => (hN.mp z).2.2 ⟨h4, h5⟩
              simp -implicitDefEqProofs -dsimp (maxSteps := 2000000) [hn, hi, lit_0, eqf, new, h5, hno]
          · have hok : NumOk w := hN.mpr ⟨⟨h1, h2⟩, h3, fun z => h4 z.1⟩
            have hwl : w.length ≤ 640 := by
              have : w.length ≤ f.length + 1 := by
                rw [hf]
                unfold figs
                split
                · rw [cut1_lo, List.length_drop]
                  omega
                · omega
              omega
            have hv := numV_int hok hwl
            have h4' : ¬ ([f.getD 0 0] : List Nat) = [48] := fun e => h4 (List.cons.inj e).1
            generalize f.getD 0 0 = z at *
            simp -implicitDefEqProofs -dsimp (maxSteps := 2000000) [hn, hi, lit_0, eqf, new, h4', h4, hok, hv]
        · have hz : (f.filter fun c => !decide (c ∈ FIG)) ≠ [] := fun e => h3 fun c hc => by
            have e := List.filter_eq_nil_iff.mp e c hc
            simpa using e
          have hno : ¬ NumOk w := fun z => h3 (hN.mp z).2.1
          generalize (f.filter fun c => !decide (c ∈ FIG)) = Z at *
          simp -implicitDefEqProofs -dsimp (maxSteps := 2000000) [hn, hz, hno]
      · simp -implicitDefEqProofs -dsimp (maxSteps := 2000000) []
        rfl
      · simp -implicitDefEqProofs -dsimp (maxSteps := 2000000) []
      · omega
      · intro c hc
        simp -implicitDefEqProofs -dsimp (maxSteps := 2000000) [wipeE, lit_fig, nmem_tx, -cop_nmems]
    · have h2' : ¬ (f.length : Int) ≤ 30 := by omega
      have hno : ¬ NumOk w := fun z => h2 (hN.mp z).1.2
      simp -implicitDefEqProofs -dsimp (maxSteps := 2000000) [q, hl, h1', h2', hno]
  · have h1' : ¬ (1 : Int) ≤ f.length := by omega
    have hno : ¬ NumOk w := fun z => h1 (hN.mp z).1.1
    simp -implicitDefEqProofs -dsimp (maxSteps := 2000000) [q, hl, h1', hno]
/-- .. whose numbers have at most thirty figures -/
theorem law_rowB_ok {n : Nat} {c most : Int} {cs : List (List D)} (hm : 0 < most ∧ most ≤ 10000) :
    ∃ ns : List Int, callD tbl (n + 2) "_law_row" [⟨.sh, .int c⟩, ⟨.sh, .int most⟩] cs = some (.ok true (.lst (ns.map D.int)) cs) ∧ 0 < ns.length ∧ (ns.length : Int) ≤ max 40 most ∧ ∀ x ∈ ns, x.natAbs < 10 ^ 30 := by
  rw [callD_of t_law_row rfl]
  obtain ⟨m, hm4, hm'⟩ := at4 (a := 3) (b := 12) (c := 40) (d := most) (n := stir c 0)
  obtain ⟨wide, hw4, hw'⟩ := at4 (a := 1) (b := 3) (c := 20) (d := 1000000) (n := stir c 1 / 8)
  have hm0 : 0 < m ∧ m ≤ max 40 most := by omega
  have hw0 : 0 < wide ∧ wide ≤ 1000000 := by omega
  have n0 := stir_nonneg (c := c) (k := 0)
  have hsz : 0 ≤ stir c 0 / 4 % m ∧ stir c 0 / 4 % m < m := ⟨Int.emod_nonneg _ (by omega), Int.emod_lt_of_pos _ (by omega)⟩
  have hr : rngD [.int (1 + stir c 0 / 4 % m)] = some ((List.range (1 + stir c 0 / 4 % m).toNat).map fun (k : Nat) => D.int (k : Int)) := if_pos (by omega)
  obtain ⟨size, hsize⟩ : ∃ z, z = 1 + stir c 0 / 4 % m := ⟨_, rfl⟩
  rw [← hsize] at hr
  simp -implicitDefEqProofs -dsimp (maxSteps := 2000000) [law_stir_ok, hm', hw', hm0, ← hsize, hr]
  generalize stir c 1 % 6 = way
  generalize hx : forL _ _ _ _ = x
  obtain ⟨s', rfl, ns, j_number, j_k, j_one, rfl, hl, hb, hj_number, hj_k, hj_one⟩ := forL_range hx rfl (fun k s => ∃ (ns : List Int) (j_number j_k j_one : Option Sl), s = ⟨[some ⟨.sh, .int c⟩, some ⟨.sh, .int most⟩, j_number, some ⟨.sh, .int size⟩, some ⟨.sh, .int way⟩, some ⟨.sh, .int wide⟩, some ⟨.ow, .lst (ns.map D.int)⟩, j_k, j_one], cs⟩ ∧ (ns.length = k) ∧ (∀ x ∈ ns, x.natAbs < 10 ^ 30) ∧ locked (some j_number) = false ∧ locked (some j_k) = false ∧ locked (some j_one) = false) ⟨[], _, _, _, rfl, (rfl), (fun x h => nomatch h), (by first | rfl | exact hj_number | exact hj_number | assumption), (by first | rfl | exact hj_k | exact hj_k | assumption), (by first | rfl | exact hj_one | exact hj_one | assumption)⟩ (fun k hk s hI => by
    clear hx
    obtain ⟨ns, j_number, j_k, j_one, hs', hl, hb, hj_number, hj_k, hj_one⟩ := hI
    subst hs'
    have h4 : (0 : Int) ≤ 4 + (k : Int) := by omega
    have hl' : ns.length < 16777216 := by omega
    have m1 : mulOk 2 wide = true := mulOk_l (by omega)
    have p1 : 0 < 2 * wide + 1 := by omega
    have s0 := law_stir_ok (n := n) (c := c) (k := 4 + (k : Int)) (cs := cs) h4
    obtain ⟨q, hq⟩ : ∃ q, q = stir c (4 + (k : Int)) := ⟨_, rfl⟩
    rw [← hq] at s0
    obtain ⟨o, ho⟩ : ∃ o, o = q / 16 % (2 * wide + 1) - wide := ⟨_, rfl⟩
    have o0 := Int.emod_nonneg (q / 16) (by omega : 2 * wide + 1 ≠ 0)
    have o1 := Int.emod_lt_of_pos (q / 16) p1
    have ob : -1000000 ≤ o ∧ o ≤ 1000000 := by omega
    clear o0 o1
    have add : ∀ z : Int, (-10 ^ 30 < z ∧ z < 10 ^ 30) → ∀ x ∈ ns ++ [z], x.natAbs < 10 ^ 30 := fun z hz x hx => by
      rcases List.mem_append.mp hx with hx | hx
      · exact hb x hx
      · rw [List.mem_singleton.mp hx]
        omega
    have fin : ∀ z : Int, (-10 ^ 30 < z ∧ z < 10 ^ 30) → ∃ ms : List Int, ns.map D.int ++ [D.int z] = ms.map D.int ∧ ms.length = k + 1 ∧ ∀ x ∈ ms, x.natAbs < 10 ^ 30 := fun z hz => ⟨ns ++ [z], by simp, by simp [hl], add z hz⟩
    have m2 : ∀ x : Int, ∀ b : Prop, ∀ _ : Decidable b, mulOk x (if b then 1 else 0) = true := fun x b _ => mulOk_r (by split <;> decide)
    have m3 : ∀ x : Int, mulOk (x % 1999999 - 999999) 1000000000000000000000000 = true := fun x => mulOk_l (by omega)
    by_cases w1 : way = 1
    · have w1' := eq_true w1
      have w2 : ¬ way = 2 := by omega
      have w3 : ¬ way = 3 := by omega
      have w4 : ¬ way = 4 := by omega
      simp -implicitDefEqProofs -dsimp (maxSteps := 2000000) [turn, hj_number, hj_k, hj_one, and_assoc, s0, m1, p1, ← ho, w1', w2, w3, w4, hl']
      exact fin _ (by split <;> omega)
    by_cases w2 : way = 2
    · have w2' := eq_true w2
      have w3 : ¬ way = 3 := by omega
      have w4 : ¬ way = 4 := by omega
      simp -implicitDefEqProofs -dsimp (maxSteps := 2000000) [turn, hj_number, hj_k, hj_one, and_assoc, s0, m1, p1, ← ho, w1, w2', w3, w4, hl', m2]
      exact fin _ (by split <;> omega)
    by_cases w3 : way = 3
    · have w3' := eq_true w3
      have w4 : ¬ way = 4 := by omega
      simp -implicitDefEqProofs -dsimp (maxSteps := 2000000) [turn, hj_number, hj_k, hj_one, and_assoc, s0, m1, p1, ← ho, w1, w2, w3', w4, hl', at2i]
      exact fin _ (by split <;> split <;> omega)
    by_cases w4 : way = 4
    · have w4' := eq_true w4
      simp -implicitDefEqProofs -dsimp (maxSteps := 2000000) [turn, hj_number, hj_k, hj_one, and_assoc, s0, m1, p1, ← ho, w1, w2, w3, w4', hl', m3]
      exact fin _ (by omega)
    · simp -implicitDefEqProofs -dsimp (maxSteps := 2000000) [turn, hj_number, hj_k, hj_one, and_assoc, s0, m1, p1, ← ho, w1, w2, w3, w4, hl']
      exact fin _ (by omega))
  simp -implicitDefEqProofs -dsimp (maxSteps := 2000000) []
  exact ⟨ns, rfl, by omega, by omega, hb⟩
def rowT (ns : List Int) : List Nat := TL.joinL [32] (ns.map wd)
theorem joinL_mem {a : List Nat} : ∀ {l : List (List Nat)} {c : Nat}, c ∈ TL.joinL a l → c ∈ a ∨ ∃ w ∈ l, c ∈ w
  | [], c, h => nomatch h
  | [p], c, h => .inr ⟨p, by simp, h⟩
  | p :: q :: r, c, h => by
    have h : c ∈ p ++ (a ++ TL.joinL a (q :: r)) := h
    rcases List.mem_append.mp h with h | h
    · exact .inr ⟨p, by simp, h⟩
    · rcases List.mem_append.mp h with h | h
      · exact .inl h
      · rcases joinL_mem h with h | ⟨w, hw, h⟩
        · exact .inl h
        · exact .inr ⟨w, by simp at hw ⊢; exact .inr hw, h⟩
theorem joinL_len {a : List Nat} {k : Nat} : ∀ {l : List (List Nat)}, (∀ w ∈ l, w.length ≤ k) → (TL.joinL a l).length ≤ l.length * (k + a.length)
  | [], _ => Nat.zero_le _
  | [p], h => by
    have := h p (by simp)
    show p.length ≤ 1 * (k + a.length)
    omega
  | p :: q :: r, h => by
    have h1 := h p (by simp)
    have h2 := joinL_len (a := a) (l := q :: r) fun w hw => h w (by simp at hw ⊢; exact .inr hw)
    show (p ++ (a ++ TL.joinL a (q :: r))).length ≤ _
    rw [List.length_append, List.length_append]
    have e : (p :: q :: r).length * (k + a.length) = (q :: r).length * (k + a.length) + (k + a.length) := by
      rw [List.length_cons, Nat.succ_mul]
    rw [e]
    omega
theorem rowT_asc {ns : List Int} : Asc (rowT ns) := fun c hc => by
  rcases joinL_mem hc with h | ⟨w, hw, h⟩
  · rw [List.mem_singleton.mp h]
    decide
  · obtain ⟨i, _, rfl⟩ := List.mem_map.mp hw
    have := wd_fig h
    omega
theorem rowT_len {ns : List Int} (h : ∀ x ∈ ns, x.natAbs < 10 ^ 30) : (rowT ns).length ≤ ns.length * 32 := by
  have := joinL_len (a := [32]) (k := 31) (l := ns.map wd) fun w hw => by
    obtain ⟨i, hi, rfl⟩ := List.mem_map.mp hw
    exact wd_len (by decide) (h i hi)
  rw [List.length_map] at this
  exact this
theorem sum_wd_len {ns : List Int} (h : ∀ x ∈ ns, x.natAbs < 10 ^ 30) : ((ns.map wd).map List.length).sum ≤ ns.length * 31 := by
  induction ns with
  | nil => exact Nat.le_refl _
  | cons i ns ih =>
    rw [List.map_cons, List.map_cons, List.sum_cons, List.length_cons, Nat.succ_mul]
    have h1 := ih fun x hx => h x (by simp [hx])
    have h2 := wd_len (k := 30) (by decide) (h i (by simp))
    omega
theorem law_text_ok {n : Nat} {κ : Kd} (hκ : κ ≠ .ow) {ns : List Int} {cs : List (List D)} (h : ∀ x ∈ ns, x.natAbs < 10 ^ 30) (hl : ns.length ≤ 100000) :
    callD tbl (n + 1) "_law_text" [⟨κ, .lst (ns.map D.int)⟩] cs = some (.ok false (.str (tx (rowT ns))) cs) := by
  rw [callD_of t_law_text rfl]
  simp -implicitDefEqProofs -dsimp (maxSteps := 2000000) [lit_blank]
  rw [bl_some (lc0 ns D.int (fun _ => true) (fun i => D.str (tx (wd i))) ?_ ?_ ?_ ?_)]
  · rw [List.filter_eq_self.mpr (fun _ _ => rfl), show (ns.map fun i => D.str (tx (wd i))) = (ns.map wd).map fun w => D.str (tx w) by rw [List.map_map]; rfl]
    have hs := sum_wd_len h
    have hj := join_tx (a := [32]) (l := ns.map wd) (by rw [List.length_map, List.length_singleton]; omega)
    generalize hW : (ns.map wd) = W at *
    simp -implicitDefEqProofs -dsimp (maxSteps := 2000000) [hj]
    rw [← hW]
    rfl
  · simp -implicitDefEqProofs -dsimp (maxSteps := 2000000) [hκ]
  · simp -implicitDefEqProofs -dsimp (maxSteps := 2000000) []
  · omega
  · intro i hi
    have := blt_str_wd (i := i) (by have := h i hi; omega)
    simp -implicitDefEqProofs -dsimp (maxSteps := 2000000) [wipeE, this, -blt_str]
theorem wrds_sub {t w : List Nat} (h : w ∈ wrds t) : (∀ c ∈ w, c ∈ t) ∧ w.length ≤ t.length := by
  have e := TL.split_spl (tx t) (tx [32]) (by decide) (TL.kind_ok (by decide +kernel))
  have hm : tx w ∈ Txt.split (tx t) (tx [32]) := by
    have : w ∈ (Txt.split (tx t) (tx [32])).map TL.tl := by rw [e]; exact h
    obtain ⟨x, hx, rfl⟩ := List.mem_map.mp this
    rw [tl_tx]
    exact hx
  refine ⟨fun c hc => ?_, ?_⟩
  · have hj := PySem.StrLaws.join_split (tx t) (tx [32])
    have hj : TL.tl (PySem.Str.join (tx [32]) (Txt.split (tx t) (tx [32]))) = t := congrArg TL.tl hj
    rw [TL.tl_join, e] at hj
    rw [← hj]
    clear hj e hm
    have gen : ∀ l : List (List Nat), w ∈ l → c ∈ TL.joinL [32] l := fun l => by
      induction l with
      | nil => intro h; cases h
      | cons p r ih =>
        intro h
        cases r with
        | nil =>
          rw [List.mem_singleton.mp h] at hc
          exact hc
        | cons q r =>
          show c ∈ p ++ ([32] ++ TL.joinL [32] (q :: r))
          rcases List.mem_cons.mp h with rfl | h
          · exact List.mem_append_left _ hc
          · exact List.mem_append_right _ (List.mem_append_right _ (ih h))
    exact gen _ h
  · have := part_short hm
    rwa [tx_len, tx_len] at this
theorem add_tx {a b : List Nat} (h : a.length + b.length ≤ 16777216) : bop .add (.str (tx a)) (.str (tx b)) = some (.sh (.str (tx (a ++ b)))) := by
  show (if (tx a).length + (tx b).length ≤ 16777216 then some (R.sh (.str (tx a ++ tx b))) else none) = _
  rw [tx_len, tx_len, if_pos h]
  exact congrArg (fun x => some (R.sh (.str x))) (TL.ext_tl (TL.tl_append (tx a) (tx b)))
/-! texts: so many times, from behind; rows that are refused -/
theorem times_tx {l : List Nat} {k : Int} (h : 0 ≤ k ∧ k ≤ 16777216 ∧ l.length * k.toNat ≤ 16777216) : bop .mul (.str (tx l)) (.int k) = some (.sh (.str (tx (List.replicate k.toNat l).flatten))) := by
  show (if 0 ≤ k ∧ k ≤ 16777216 ∧ (tx l).length * k.toNat ≤ 16777216 then some (R.sh (.str (timesS (tx l) k.toNat))) else none) = _
  rw [tx_len, if_pos h]
  rfl
theorem rev_tx {l : List Nat} (h : l.length ≤ 16777216) : revD (.str (tx l)) = some (.sh (.str (tx l.reverse))) := by
  show (if (tx l).length ≤ 16777216 then some (R.sh (.str (revS (tx l)))) else none) = _
  rw [tx_len, if_pos h]
  rfl
theorem Asc.rep {l : List Nat} (h : Asc l) (k : Nat) : Asc (List.replicate k l).flatten := fun c hc => by
  obtain ⟨m, hm, hc⟩ := List.mem_flatten.mp hc
  rw [List.eq_of_mem_replicate hm] at hc
  exact h c hc
theorem Asc.rev {l : List Nat} (h : Asc l) : Asc l.reverse := fun c hc => h c (List.mem_reverse.mp hc)
theorem rep_len_tx {l : List Nat} {k : Nat} : (List.replicate k l).flatten.length = k * l.length := PyProof.Rows.lm_len_rep_flat _ _
theorem read_row_any {n : Nat} {t : List Nat} {cs : List (List D)} (hA : Asc t) (hl : t.length ≤ 1000000) (hwl : (wrds t).length ≤ 1000001) :
    callD tbl (n + 3) "read_row" [⟨.sh, .str (tx t)⟩] cs = some (if ∀ w ∈ wrds t, NumOk w then .ok true (.lst ((wrds t).map fun w => .int (numV w))) cs else .exc "NoText" cs) := by
  rw [callD_of t_read_row rfl]
  have hs := split_tx (t := t) (by omega)
  simp -implicitDefEqProofs -dsimp (maxSteps := 2000000) [lit_blank]
  rw [lcx0 (wrds t) (fun w => D.str (tx w)) NumOk (fun w => D.int (numV w)) "NoText" ?_ ?_ ?_ ?_]
  · by_cases h : ∀ w ∈ wrds t, NumOk w
    · rw [if_pos h, if_pos h]
      simp -implicitDefEqProofs -dsimp (maxSteps := 2000000) []
    · rw [if_neg h, if_neg h]
      simp -implicitDefEqProofs -dsimp (maxSteps := 2000000) []
  · simp -implicitDefEqProofs -dsimp (maxSteps := 2000000) [mthK, hs]
  · simp -implicitDefEqProofs -dsimp (maxSteps := 2000000) []
  · omega
  · intro w hm
    have hx := wrds_sub hm
    have q := number_told_ok (n := n) (w := w) (cs := cs) (fun c hc => hA c (hx.1 c hc)) (by omega)
    by_cases h : NumOk w
    · rw [if_pos h] at q
      simp -implicitDefEqProofs -dsimp (maxSteps := 2000000) [wipeE, q, h]
    · rw [if_neg h] at q
      simp -implicitDefEqProofs -dsimp (maxSteps := 2000000) [wipeE, q, h]
theorem wrds_back {t : List Nat} : TL.joinL [32] (wrds t) = t := by
  have hj := PySem.StrLaws.join_split (tx t) (tx [32])
  have hj : TL.tl (PySem.Str.join (tx [32]) (Txt.split (tx t) (tx [32]))) = t := congrArg TL.tl hj
  rw [TL.tl_join, TL.split_spl (tx t) (tx [32]) (by decide) (TL.kind_ok (by decide +kernel))] at hj
  exact hj
theorem joinL_low {a : Nat} : ∀ l : List (List Nat), l.length ≤ (TL.joinL [a] l).length + 1
  | [] => Nat.zero_le _
  | [p] => Nat.le_add_left _ _
  | p :: q :: r => by
    have h := joinL_low (a := a) (q :: r)
    show (q :: r).length + 1 ≤ (p ++ ([a] ++ TL.joinL [a] (q :: r))).length + 1
    rw [List.length_append, List.length_append, List.length_singleton]
    omega
theorem wrds_count {t : List Nat} : (wrds t).length ≤ t.length + 1 := by
  have := joinL_low (a := 32) (wrds t)
  rwa [wrds_back] at this
theorem wrds_ne {t : List Nat} : wrds t ≠ [] := fun h => by
  have e := wrds_back (t := t)
  rw [h] at e
  have e : t = [] := e.symm
  rw [e] at h
  exact absurd h (by decide)
end PV
set_option maxHeartbeats 4000000
namespace PV
open PySem PySem.Spec PyProof.Rows L2
theorem law_refused_ok {n : Nat} {t : List Nat} {cs : List (List D)} (hA : Asc t) (hl : t.length ≤ 1000000) (hwl : (wrds t).length ≤ 1000001) :
    callD tbl (n + 4) "_law_refused" [⟨.sh, .str (tx t)⟩] cs = some (.ok true (.lst ((if ∀ w ∈ wrds t, NumOk w then [] else flagL 9 4).map D.bl)) cs) := by
  rw [callD_of t_law_refused rfl]
  have q := read_row_any (n := n) (cs := cs) hA hl hwl
  by_cases h : ∀ w ∈ wrds t, NumOk w
  · rw [if_pos h] at q ⊢
    simp -implicitDefEqProofs -dsimp (maxSteps := 2000000) [q]
  · rw [if_neg h] at q ⊢
    simp -implicitDefEqProofs -dsimp (maxSteps := 2000000) [q]
    rfl
theorem lit_none : Str.ofString "" = tx [] := rfl
theorem cut0_lo {w : List Nat} : cut w (some 0) none = w := by
  unfold cut sIx
  simp
theorem law_textdue_ok {n : Nat} {t : List Nat} {cs : List (List D)} (hA : Asc t) (hl : t.length ≤ 1000000) (hwl : (wrds t).length ≤ 1000001) :
    callD tbl (n + 1) "_law_due" [⟨.sh, .str (tx t)⟩] cs = some (.ok true (.lst ((if ∀ w ∈ wrds t, NumOk w then (wrds t).map numV else []).map D.int)) cs) := by
  rw [callD_of t_law_due rfl]
  have hs := split_tx (t := t) (by omega)
  obtain ⟨L, hL⟩ : ∃ L, L = wrds t := ⟨_, rfl⟩
  have hx : ∀ w ∈ L, Asc w ∧ w.length ≤ 1000000 := fun w hw => by
    have := wrds_sub (hL ▸ hw)
    exact ⟨fun c hc => hA c (this.1 c hc), by omega⟩
  rw [← hL] at hs hwl ⊢
  simp -implicitDefEqProofs -dsimp (maxSteps := 2000000) [lit_blank, mthK, hs]
  generalize hx : forL _ _ _ _ = x
  rcases forL_out hx rfl (fun k s => ∃ (ns : List Int) (j_word j_figures j_sign : Option Sl), s = ⟨[some ⟨.sh, .str (tx t)⟩, some ⟨.ow, .lst (ns.map D.int)⟩, j_word, j_figures, j_sign], cs⟩ ∧ (ns = (L.take k).map numV) ∧ (∀ w ∈ L.take k, NumOk w) ∧ locked (some j_word) = false ∧ locked (some j_figures) = false ∧ fre j_sign = true) ((fun x => ∃ e, x = some (.ret (.fr (.lst [])) ⟨e, cs⟩) ∧ ∃ w, w ∈ L ∧ ¬ NumOk w)) ⟨[], _, _, _, rfl, (rfl), (fun w h => nomatch h), (by first | rfl | exact hj_word | exact hj_word | assumption), (by first | rfl | exact hj_figures | exact hj_figures | assumption), (by first | rfl | exact hf_sign | exact hj_sign | assumption)⟩ (fun k hk s hI => by
    clear hx
    obtain ⟨ns, j_word, j_figures, j_sign, hs', hi, hg, hj_word, hj_figures, hf_sign⟩ := hI
    subst hs'
    have hj_sign := fre_locked hf_sign
    have hLk : L[k] ∈ L := List.getElem_mem _
    have htk : L.take (k + 1) = L.take k ++ [L[k]] := by simp
    obtain ⟨w, hw⟩ : ∃ w, w = L[k] := ⟨_, rfl⟩
    rw [← hw] at hLk htk ⊢
    have hns : ns.length = k := by
      rw [hi, List.length_map, List.length_take]
      omega
    have hsz : ns.length < 16777216 := by omega
    have hbad : ¬ NumOk w → ∃ w, w ∈ L ∧ ¬ NumOk w := fun h => ⟨w, hLk, h⟩
    have hgood : NumOk w → ns ++ [numV w] = (L.take (k + 1)).map numV ∧ ∀ w ∈ L.take (k + 1), NumOk w := fun h => ⟨by rw [htk, hi]; simp, fun v hv => by
      rw [htk] at hv
      rcases List.mem_append.mp hv with hv | hv
      · exact hg v hv
      · rw [List.mem_singleton.mp hv]
        exact h⟩
    obtain ⟨hA', hl'⟩ := hx w hLk
    clear hw htk hi
    have h1 := sl_tx (l := w) (lo := none) (hi := some 1) (by omega)
    have h3 := hA'.cut none (some 1)
    have hq := eq_tx h3 (b := [45]) (by unfold Asc; decide)
    obtain ⟨f, hf⟩ : ∃ f, f = figs w := ⟨_, rfl⟩
    have h2 : slD (.str (tx w)) (some (if cut w none (some 1) = [45] then 1 else 0)) none = some (.sh (.str (tx f))) := by
      rw [sl_tx (by omega), hf]
      unfold figs
      by_cases hc : cut w none (some 1) = [45]
      · rw [if_pos hc, if_pos hc]
      · rw [if_neg hc, if_neg hc, cut0_lo]
    have hfl : f.length ≤ w.length := by
      rw [hf]
      unfold figs
      split
      · exact cut_len_le
      · exact Nat.le_refl _
    have hAf : Asc f := by
      rw [hf]
      unfold figs
      split
      · exact hA'.cut _ _
      · exact hA'
    have hN : NumOk w ↔ (1 ≤ f.length ∧ f.length ≤ 30) ∧ (∀ c ∈ f, c ∈ FIG) ∧ ¬ (f.getD 0 0 = 48 ∧ w ≠ [48]) := by rw [hf]; exact Iff.rfl
    have hfe := eq_tx hAf (b := []) (by unfold Asc; decide)
    have hll := blt_len_tx (l := f) (by omega)
    by_cases c1 : f = []
    · have hno : ¬ NumOk w := fun z => by
        have := (hN.mp z).1.1
        rw [c1] at this
        simp at this
      have c1' := eq_true c1
      refine .inr ?_
      simp -implicitDefEqProofs -dsimp (maxSteps := 2000000) [turn, hj_word, hj_figures, hf_sign, hj_sign, and_assoc, lit_minus, lit_none, h1, hq, h2, hfe, c1']
      exact hbad hno
    have hf1 : 1 ≤ f.length := List.length_pos_iff.mpr c1
    by_cases c2 : f.length ≤ 30
    · have c2' : ¬ (30 : Int) < f.length := by omega
      have hn := ne_chs (l := f.filter fun c => !decide (c ∈ FIG)) fun c hc => hAf c (List.mem_filter.mp hc).1
      by_cases c3 : ∀ c ∈ f, c ∈ FIG
      · have hz : (f.filter fun c => !decide (c ∈ FIG)) = [] := List.filter_eq_nil_iff.mpr fun c hc => by simp [c3 c hc]
        rw [hz] at hn
        have eqf := eq_tx (a := [f.getD 0 0]) (b := [48]) (fun c hc => by rw [List.mem_singleton.mp hc]; exact hAf _ (by rw [List.getD_eq_getElem?_getD, List.getElem?_eq_getElem (by omega)]; exact List.getElem_mem _)) (by unfold Asc; decide)
        have new := ne_tx (a := w) (b := [48]) hA' (by unfold Asc; decide)
        have hi0 := ix_tx (l := f) (i := 0) (j := 0) (by omega) rfl (by omega)
        by_cases c4 : f.getD 0 0 = 48 ∧ w ≠ [48]
        · have hno : ¬ NumOk w := fun z => (hN.mp z).2.2 c4
          rw [c4.1] at hi0 eqf
          refine .inr ?_
          simp -implicitDefEqProofs -dsimp (maxSteps := 2000000) [turn, hj_word, hj_figures, hf_sign, hj_sign, and_assoc, lit_minus, lit_none, h1, hq, h2, hfe, c1, hll, c2']
          rw [bl_some (lc0 f (fun c => .str (tx [c])) (fun c => !decide (c ∈ FIG)) (fun c => .str (tx [c])) ?_ ?_ ?_ ?_)]
          rotate_left
          · simp -implicitDefEqProofs -dsimp (maxSteps := 2000000) []
            rfl
          · simp -implicitDefEqProofs -dsimp (maxSteps := 2000000) [turn, hj_word, hj_figures, hf_sign, hj_sign, and_assoc]
          · omega
          · intro c hc
            simp -implicitDefEqProofs -dsimp (maxSteps := 2000000) [wipeE, lit_fig, nmem_tx, -cop_nmems]
          rw [hz]
          simp -implicitDefEqProofs -dsimp (maxSteps := 2000000) [hn, hi0, lit_0, eqf, new, c4.2]
          exact hbad hno
        · have hok : NumOk w := hN.mpr ⟨⟨hf1, c2⟩, c3, c4⟩
          have hwf : w = f ∧ ¬ cut w none (some 1) = [45] ∨ f = cut w (some 1) none ∧ cut w none (some 1) = [45] := by
            by_cases hc : cut w none (some 1) = [45]
            · exact .inr ⟨by rw [hf]; exact if_pos hc, hc⟩
            · exact .inl ⟨by rw [hf]; exact (if_neg hc).symm, hc⟩
          have hv : bltD .int [.str (tx f)] = some (.sh (.int (NumText.digitsVal f : Nat))) := blt_ints (intText_digits (fun c hm => mem_fig.mp (c3 c hm)) c1 (by rw [tx_len]; omega)) (by rw [tx_len]; omega)
          have hw0 : w ≠ [] := fun e => by
            rcases hwf with z | z
            · exact c1 (z.1 ▸ e)
            · rw [e] at z
              cases z.2
          have hw1 := ix_tx (l := w) (i := 0) (j := 0) (by omega) rfl (List.length_pos_iff.mpr hw0)
          have hq1 := eq_tx (a := [w.getD 0 0]) (b := [45]) (fun c hc => by rw [List.mem_singleton.mp hc]; exact hA' _ (by rw [List.getD_eq_getElem?_getD, List.getElem?_eq_getElem (List.length_pos_iff.mpr hw0)]; exact List.getElem_mem _)) (by unfold Asc; decide)
          have hcw : cut w none (some 1) = [w.getD 0 0] := by
            rw [cut1_hi]
            cases w with
            | nil => exact absurd rfl hw0
            | cons a l => rfl
          have hg1 := hgood hok
          have hV : numV w = if [w.getD 0 0] = [45] then -((NumText.digitsVal f : Nat) : Int) else ((NumText.digitsVal f : Nat) : Int) := by
            unfold numV
            rw [← hcw]
            rcases hwf with z | z
            · rw [if_neg z.2, if_neg z.2, z.1]
            · rw [if_pos z.2, if_pos z.2, ← z.1]
          generalize numV w = V at hV hg1
          refine .inl ?_
          by_cases c5 : f.getD 0 0 = 48
          · have c6 : w = [48] := by
              by_cases e : w = [48]
              · exact e
              · exact absurd ⟨c5, e⟩ c4
            rw [c5] at hi0 eqf
            subst c6
            rw [if_neg (by decide)] at hV
            subst hV
            generalize ((NumText.digitsVal f : Nat) : Int) = dv at *
            simp -implicitDefEqProofs -dsimp (maxSteps := 2000000) [turn, hj_word, hj_figures, hf_sign, hj_sign, and_assoc, lit_minus, lit_none, h1, hq, h2, hfe, c1, hll, c2']
            rw [bl_some (lc0 f (fun c => .str (tx [c])) (fun c => !decide (c ∈ FIG)) (fun c => .str (tx [c])) ?_ ?_ ?_ ?_)]
            rotate_left
            · simp -implicitDefEqProofs -dsimp (maxSteps := 2000000) []
              rfl
            · simp -implicitDefEqProofs -dsimp (maxSteps := 2000000) [turn, hj_word, hj_figures, hf_sign, hj_sign, and_assoc]
            · omega
            · intro c hc
              simp -implicitDefEqProofs -dsimp (maxSteps := 2000000) [wipeE, lit_fig, nmem_tx, -cop_nmems]
            rw [hz]
            have hq2 : cop .eq (.str (tx [48])) (.str (tx [45])) = some false := hq1
            simp -implicitDefEqProofs -dsimp (maxSteps := 2000000) [hn, hi0, lit_0, lit_minus, eqf, new, hv, hw1, hq2, hsz]
            exact ⟨ns ++ [dv], _, _, _, ⟨by simp, rfl, rfl, rfl⟩, by rw [← List.map_take]; exact hg1.1, hg1.2, rfl, rfl, by assumption⟩
          · have c5' : ¬ ([f.getD 0 0] : List Nat) = [48] := fun e => c5 (List.cons.inj e).1
            generalize f.getD 0 0 = z at *
            generalize w.getD 0 0 = y at *
            generalize ((NumText.digitsVal f : Nat) : Int) = dv at *
            by_cases c7 : y = 45
            · subst c7
              rw [if_pos rfl] at hV
              subst hV
              simp -implicitDefEqProofs -dsimp (maxSteps := 2000000) [turn, hj_word, hj_figures, hf_sign, hj_sign, and_assoc, lit_minus, lit_none, h1, hq, h2, hfe, c1, hll, c2']
              rw [bl_some (lc0 f (fun c => .str (tx [c])) (fun c => !decide (c ∈ FIG)) (fun c => .str (tx [c])) ?_ ?_ ?_ ?_)]
              rotate_left
              · simp -implicitDefEqProofs -dsimp (maxSteps := 2000000) []
                rfl
              · simp -implicitDefEqProofs -dsimp (maxSteps := 2000000) [turn, hj_word, hj_figures, hf_sign, hj_sign, and_assoc]
              · omega
              · intro c hc
                simp -implicitDefEqProofs -dsimp (maxSteps := 2000000) [wipeE, lit_fig, nmem_tx, -cop_nmems]
              rw [hz]
              simp -implicitDefEqProofs -dsimp (maxSteps := 2000000) [hn, hi0, lit_0, lit_minus, eqf, new, c5, c5', hv, hw1, hq1, hsz]
              exact ⟨ns ++ [-dv], _, _, _, ⟨by simp, rfl, rfl, rfl⟩, by rw [← List.map_take]; exact hg1.1, hg1.2, rfl, rfl, by assumption⟩
            · have c7' : ¬ ([y] : List Nat) = [45] := fun e => c7 (List.cons.inj e).1
              rw [if_neg c7'] at hV
              subst hV
              simp -implicitDefEqProofs -dsimp (maxSteps := 2000000) [turn, hj_word, hj_figures, hf_sign, hj_sign, and_assoc, lit_minus, lit_none, h1, hq, h2, hfe, c1, hll, c2']
              rw [bl_some (lc0 f (fun c => .str (tx [c])) (fun c => !decide (c ∈ FIG)) (fun c => .str (tx [c])) ?_ ?_ ?_ ?_)]
              rotate_left
              · simp -implicitDefEqProofs -dsimp (maxSteps := 2000000) []
                rfl
              · simp -implicitDefEqProofs -dsimp (maxSteps := 2000000) [turn, hj_word, hj_figures, hf_sign, hj_sign, and_assoc]
              · omega
              · intro c hc
                simp -implicitDefEqProofs -dsimp (maxSteps := 2000000) [wipeE, lit_fig, nmem_tx, -cop_nmems]
              rw [hz]
              simp -implicitDefEqProofs -dsimp (maxSteps := 2000000) [hn, hi0, lit_0, lit_minus, eqf, new, c5, c5', hv, hw1, hq1, c7, hsz]
              exact ⟨ns ++ [V], _, _, _, ⟨by simp, rfl, rfl, rfl⟩, by rw [← List.map_take]; exact hg1.1, hg1.2, rfl, rfl, by assumption⟩
      · have hz : (f.filter fun c => !decide (c ∈ FIG)) ≠ [] := fun e => c3 fun c hc => by
          have e := List.filter_eq_nil_iff.mp e c hc
          simpa using e
        have hno : ¬ NumOk w := fun z => c3 (hN.mp z).2.1
        refine .inr ?_
        simp -implicitDefEqProofs -dsimp (maxSteps := 2000000) [turn, hj_word, hj_figures, hf_sign, hj_sign, and_assoc, lit_minus, lit_none, h1, hq, h2, hfe, c1, hll, c2']
        rw [bl_some (lc0 f (fun c => .str (tx [c])) (fun c => !decide (c ∈ FIG)) (fun c => .str (tx [c])) ?_ ?_ ?_ ?_)]
        rotate_left
        · simp -implicitDefEqProofs -dsimp (maxSteps := 2000000) []
          rfl
        · simp -implicitDefEqProofs -dsimp (maxSteps := 2000000) [turn, hj_word, hj_figures, hf_sign, hj_sign, and_assoc]
        · omega
        · intro c hc
          simp -implicitDefEqProofs -dsimp (maxSteps := 2000000) [wipeE, lit_fig, nmem_tx, -cop_nmems]
        generalize (f.filter fun c => !decide (c ∈ FIG)) = Z at *
        simp -implicitDefEqProofs -dsimp (maxSteps := 2000000) [hn, hz]
        exact hbad hno
    · have c2' : (30 : Int) < f.length := by omega
      have hno : ¬ NumOk w := fun z => c2 (hN.mp z).1.2
      refine .inr ?_
      simp -implicitDefEqProofs -dsimp (maxSteps := 2000000) [turn, hj_word, hj_figures, hf_sign, hj_sign, and_assoc, lit_minus, lit_none, h1, hq, h2, hfe, c1, hll, c2']
      exact hbad hno) with ⟨s', rfl, ns, j_word, j_figures, j_sign, rfl, hi, hg, hj_word, hj_figures, hf_sign⟩ | hq
  · have hgL : ∀ w ∈ L, NumOk w := fun w hw => hg w (by rw [List.take_length]; exact hw)
    rw [List.take_length] at hi
    rw [if_pos hgL]
    simp -implicitDefEqProofs -dsimp (maxSteps := 2000000) [hi]
  · obtain ⟨e, rfl, w, hw, hno⟩ := hq
    rw [if_neg (fun z => hno (z w hw))]
    simp -implicitDefEqProofs -dsimp (maxSteps := 2000000) []
def SGN : List Nat := [48, 49, 50, 51, 52, 53, 54, 55, 56, 57, 32, 45, 43, 44, 46, 97, 120, 95, 10]
theorem lit_sgn : Str.ofString "0123456789 -+,.ax_\n" = tx SGN := by decide +kernel
theorem sgn_low : ∀ j, j < 19 → SGN.getD j 0 < 1000 := by decide
def Z30 : List Nat := List.replicate 30 48
def N30 : List Nat := List.replicate 30 57
def N50 : List Nat := List.replicate 5000 57
def MEN : List (List Nat) := [[], [32], [48], [48, 48], [48, 49], [45, 48], [45, 48, 49], [45, 45, 49], [43, 49], 49 :: Z30, 45 :: N30, N50, [45], [120], [49, 95, 48]]
theorem men_ok : ∀ w ∈ MEN, Asc w ∧ w.length ≤ 5000 := fun w hw => by
  have hz : Asc ([] : List Nat) := fun c h => nomatch h
  have rp : ∀ n c, c < 1000 → Asc (List.replicate n c) := fun n c h d hd => by rw [List.eq_of_mem_replicate hd]; exact h
  have cn : ∀ {c : Nat} {l : List Nat}, c < 1000 → Asc l → Asc (c :: l) := fun {c l} h hl d hd => by
    rcases List.mem_cons.mp hd with rfl | hd
    · exact h
    · exact hl d hd
  unfold MEN at hw
  simp only [List.mem_cons, List.not_mem_nil, or_false] at hw
  rcases hw with rfl | rfl | rfl | rfl | rfl | rfl | rfl | rfl | rfl | rfl | rfl | rfl | rfl | rfl | rfl
  · exact ⟨hz, by decide⟩
  · exact ⟨by unfold Asc; decide, by decide⟩
  · exact ⟨by unfold Asc; decide, by decide⟩
  · exact ⟨by unfold Asc; decide, by decide⟩
  · exact ⟨by unfold Asc; decide, by decide⟩
  · exact ⟨by unfold Asc; decide, by decide⟩
  · exact ⟨by unfold Asc; decide, by decide⟩
  · exact ⟨by unfold Asc; decide, by decide⟩
  · exact ⟨by unfold Asc; decide, by decide⟩
  · exact ⟨cn (by decide) (rp 30 48 (by decide)), by rw [List.length_cons, Z30, List.length_replicate]; decide⟩
  · exact ⟨cn (by decide) (rp 30 57 (by decide)), by rw [List.length_cons, N30, List.length_replicate]; decide⟩
  · exact ⟨rp 5000 57 (by decide), by rw [N50, List.length_replicate]; decide⟩
  · exact ⟨by unfold Asc; decide, by decide⟩
  · exact ⟨by unfold Asc; decide, by decide⟩
  · exact ⟨by unfold Asc; decide, by decide⟩
theorem times_one_tx {c : Nat} {k : Int} {n : Nat} (h : k = n) (hn : n ≤ 10000) : bop .mul (.str (tx [c])) (.int k) = some (.sh (.str (tx (List.replicate n c)))) := by
  subst h
  rw [times_tx (by rw [List.length_singleton]; omega), Int.toNat_natCast, List.flatten_replicate_singleton]
theorem lit_men : Str.ofString "00" = tx [48, 48] ∧ Str.ofString "01" = tx [48, 49] ∧ Str.ofString "-0" = tx [45, 48] ∧ Str.ofString "-01" = tx [45, 48, 49] ∧ Str.ofString "--1" = tx [45, 45, 49] ∧ Str.ofString "+1" = tx [43, 49] ∧ Str.ofString "1" = tx [49] ∧ Str.ofString "9" = tx [57] ∧ Str.ofString "x" = tx [120] ∧ Str.ofString "1_0" = tx [49, 95, 48] := by decide +kernel
theorem law_spoilt_ok {n : Nat} {c k : Int} {t : List Nat} {cs : List (List D)} (hk : 0 ≤ k) (hA : Asc t) (hl : t.length ≤ 100000) :
    ∃ t', callD tbl (n + 2) "_law_spoilt" [⟨.sh, .int c⟩, ⟨.sh, .int k⟩, ⟨.sh, .str (tx t)⟩] cs = some (.ok false (.str (tx t')) cs) ∧ Asc t' ∧ t'.length ≤ 4 * t.length + 6000 := by
  rw [callD_of t_law_spoilt rfl]
  have s0 := law_stir_ok (n := n) (c := c) (k := k) (cs := cs) hk
  have s1 := law_stir_ok (n := n) (c := c) (k := k + 1) (cs := cs) (by omega)
  have s2 := law_stir_ok (n := n) (c := c) (k := k + 2) (cs := cs) (by omega)
  have s3 := law_stir_ok (n := n) (c := c) (k := k + 3) (cs := cs) (by omega)
  have n0 := stir_nonneg (c := c) (k := k)
  have hll := blt_len_tx (l := t) (by omega)
  obtain ⟨at', hat⟩ : ∃ z, z = stir c k % ((t.length : Int) + 1) := ⟨_, rfl⟩
  have hat0 : 0 ≤ at' := by rw [hat]; exact Int.emod_nonneg _ (by omega)
  have hp : (0 : Int) < (t.length : Int) + 1 := by omega
  have hsg : ixD (.str (tx SGN)) (.int (stir c (k + 2) % 19)) = some (.str (tx [SGN.getD (stir c (k + 2) % 19).toNat 0])) := ix_tx (by decide) (by omega) (by show _ < 19; omega)
  have hsA : Asc [SGN.getD (stir c (k + 2) % 19).toNat 0] := fun d hd => by
    rw [List.mem_singleton.mp hd]
    exact sgn_low _ (by omega)
  generalize SGN.getD (stir c (k + 2) % 19).toNat 0 = sg at *
  have a1 := sl_tx (l := t) (lo := none) (hi := some at') (by omega)
  have a2 := sl_tx (l := t) (lo := some at') (hi := none) (by omega)
  have a3 := sl_tx (l := t) (lo := some (at' + 1)) (hi := none) (by omega)
  have a4 := sl_tx (l := t) (lo := some at') (hi := some (at' + 1)) (by omega)
  have a5 := sl_tx (l := t) (lo := some at') (hi := some (at' + 2)) (by omega)
  have a6 := sl_tx (l := t) (lo := some (at' + 2)) (hi := none) (by omega)
  have cutF : ∀ lo hi, Asc (cut t lo hi) ∧ (cut t lo hi).length ≤ t.length := fun lo hi => ⟨hA.cut _ _, cut_len_le⟩
  have b1 := cutF none (some at')
  have b2 := cutF (some at') none
  have b3 := cutF (some (at' + 1)) none
  have b4 := cutF (some at') (some (at' + 1))
  have b5 := cutF (some at') (some (at' + 2))
  have b6 := cutF (some (at' + 2)) none
  clear cutF
  generalize cut t none (some at') = x1 at *
  generalize cut t (some at') none = x2 at *
  generalize cut t (some (at' + 1)) none = x3 at *
  generalize cut t (some at') (some (at' + 1)) = x4 at *
  generalize cut t (some at') (some (at' + 2)) = x5 at *
  generalize cut t (some (at' + 2)) none = x6 at *
  obtain ⟨kd, hkd⟩ : ∃ z, z = stir c (k + 1) % 7 := ⟨_, rfl⟩
  have hks : kd = 0 ∨ kd = 1 ∨ kd = 2 ∨ kd = 3 ∨ kd = 4 ∨ kd = 5 ∨ kd = 6 := by omega
  have lsg : ([sg] : List Nat).length = 1 := rfl
  rcases hks with e | e | e | e | e | e | e
  · rw [e] at hkd
    have p1 := add_tx (a := x1) (b := [sg]) (by omega)
    have p2 := add_tx (a := x1 ++ [sg]) (b := x2) (by rw [List.length_append]; omega)
    refine ⟨x1 ++ [sg] ++ x2, ?_, (b1.1.app hsA).app b2.1, by rw [List.length_append, List.length_append]; omega⟩
    simp -implicitDefEqProofs -dsimp (maxSteps := 2000000) [s0, s1, s2, hll, hp, ← hat, ← hkd, lit_sgn, hsg, a1, a2, p1, p2]
  · rw [e] at hkd
    have p1 := add_tx (a := x1) (b := x3) (by omega)
    refine ⟨x1 ++ x3, ?_, b1.1.app b3.1, by rw [List.length_append]; omega⟩
    simp -implicitDefEqProofs -dsimp (maxSteps := 2000000) [s0, s1, s2, hll, hp, ← hat, ← hkd, lit_sgn, hsg, a1, a3, p1]
  · rw [e] at hkd
    have p1 := add_tx (a := x1) (b := [sg]) (by omega)
    have p2 := add_tx (a := x1 ++ [sg]) (b := x3) (by rw [List.length_append]; omega)
    refine ⟨x1 ++ [sg] ++ x3, ?_, (b1.1.app hsA).app b3.1, by rw [List.length_append, List.length_append]; omega⟩
    simp -implicitDefEqProofs -dsimp (maxSteps := 2000000) [s0, s1, s2, hll, hp, ← hat, ← hkd, lit_sgn, hsg, a1, a3, p1, p2]
  · rw [e] at hkd
    obtain ⟨y, hy⟩ : ∃ y, y = (List.replicate (2 : Int).toNat x4).flatten := ⟨_, rfl⟩
    have lt : (2 : Int).toNat = 2 := rfl
    have p0 := times_tx (l := x4) (k := 2) (by rw [lt]; omega)
    rw [← hy] at p0
    have hyl : y.length = 2 * x4.length := by rw [hy, rep_len_tx]; rfl
    have hyA : Asc y := by rw [hy]; exact b4.1.rep _
    have p1 := add_tx (a := x1) (b := y) (by omega)
    have p2 := add_tx (a := x1 ++ y) (b := x3) (by rw [List.length_append]; omega)
    refine ⟨x1 ++ y ++ x3, ?_, (b1.1.app hyA).app b3.1, by rw [List.length_append, List.length_append]; omega⟩
    simp -implicitDefEqProofs -dsimp (maxSteps := 2000000) [s0, s1, s2, hll, hp, ← hat, ← hkd, lit_sgn, hsg, a1, a3, a4, p0, p1, p2]
  · rw [e] at hkd
    have p0 := rev_tx (l := x5) (by omega)
    have hyl : x5.reverse.length = x5.length := List.length_reverse
    have hyA := b5.1.rev
    generalize x5.reverse = y at *
    have p1 := add_tx (a := x1) (b := y) (by omega)
    have p2 := add_tx (a := x1 ++ y) (b := x6) (by rw [List.length_append]; omega)
    refine ⟨x1 ++ y ++ x6, ?_, (b1.1.app hyA).app b6.1, by rw [List.length_append, List.length_append]; omega⟩
    simp -implicitDefEqProofs -dsimp (maxSteps := 2000000) [s0, s1, s2, hll, hp, ← hat, ← hkd, lit_sgn, hsg, a1, a5, a6, p0, p1, p2]
  all_goals
    rw [e] at hkd
    obtain ⟨m1, m2, m3, m4, m5, m6, m7, m8, m9, m10⟩ := lit_men
    have t1 : bop .mul (.str (tx [48])) (.int 30) = some (.sh (.str (tx Z30))) := times_one_tx (c := 48) (k := 30) (n := 30) rfl (by decide)
    have t2 : bop .mul (.str (tx [57])) (.int 30) = some (.sh (.str (tx N30))) := times_one_tx (c := 57) (k := 30) (n := 30) rfl (by decide)
    have t3 : bop .mul (.str (tx [57])) (.int 5000) = some (.sh (.str (tx N50))) := times_one_tx (c := 57) (k := 5000) (n := 5000) rfl (by decide)
    have u1 : bop .add (.str (tx [49])) (.str (tx Z30)) = some (.sh (.str (tx (49 :: Z30)))) := add_tx (by rw [Z30, List.length_replicate]; decide)
    have u2 : bop .add (.str (tx [45])) (.str (tx N30)) = some (.sh (.str (tx (45 :: N30)))) := add_tx (by rw [N30, List.length_replicate]; decide)
    have hj : (stir c (k + 2) % 15).toNat < MEN.length := by show _ < 15; omega
    have hm : atD (MEN.map fun w => D.str (tx w)) (stir c (k + 2) % 15) = some (.str (tx (MEN.getD (stir c (k + 2) % 15).toNat []))) := by
      rw [atD_at (j := (stir c (k + 2) % 15).toNat) (by omega) (by rw [List.length_map]; exact hj), List.getElem_map, List.getD_eq_getElem?_getD, List.getElem?_eq_getElem hj]
      rfl
    have hmo := men_ok (MEN.getD (stir c (k + 2) % 15).toNat []) (by rw [List.getD_eq_getElem?_getD, List.getElem?_eq_getElem hj]; exact List.getElem_mem _)
    generalize MEN.getD (stir c (k + 2) % 15).toNat [] = wo at hm hmo
    simp only [MEN, List.map_cons, List.map_nil] at hm
    obtain ⟨bt, hbt, hbA, hbl⟩ : ∃ bt, atD [.str (tx []), .str (tx [32])] (stir c (k + 3) % 2) = some (.str (tx bt)) ∧ Asc bt ∧ bt.length ≤ 1 := by
      have h : stir c (k + 3) % 2 = 0 ∨ stir c (k + 3) % 2 = 1 := by omega
      rcases h with h | h
      · exact ⟨[], by rw [h]; rfl, fun c h => (nomatch h), by decide⟩
      · exact ⟨[32], by rw [h]; rfl, by unfold Asc; decide, by decide⟩
  · have p1 := add_tx (a := x1) (b := wo) (by omega)
    have p2 := add_tx (a := x1 ++ wo) (b := bt) (by rw [List.length_append]; omega)
    have p3 := add_tx (a := x1 ++ (wo ++ bt)) (b := x2) (by rw [List.length_append, List.length_append]; omega)
    refine ⟨x1 ++ wo ++ bt ++ x2, ?_, ((b1.1.app hmo.1).app hbA).app b2.1, by rw [List.length_append, List.length_append, List.length_append]; omega⟩
    simp -implicitDefEqProofs -dsimp (maxSteps := 2000000) [s0, s1, s2, s3, hll, hp, ← hat, ← hkd, lit_sgn, hsg, a1, a2, m1, m2, m3, m4, m5, m6, m7, m8, m9, m10, lit_none, lit_blank, lit_0, lit_minus, t1, t2, t3, u1, u2, hm, hbt, p1, p2, p3]
  · have p1 := add_tx (a := t) (b := bt) (by omega)
    have p2 := add_tx (a := t ++ bt) (b := wo) (by rw [List.length_append]; omega)
    refine ⟨t ++ bt ++ wo, ?_, (hA.app hbA).app hmo.1, by rw [List.length_append, List.length_append]; omega⟩
    simp -implicitDefEqProofs -dsimp (maxSteps := 2000000) [s0, s1, s2, s3, hll, hp, ← hat, ← hkd, lit_sgn, hsg, m1, m2, m3, m4, m5, m6, m7, m8, m9, m10, lit_none, lit_blank, lit_0, lit_minus, t1, t2, t3, u1, u2, hm, hbt, p1, p2]
theorem law_ok {n : Nat} {ns : List Int} {cs : List (List D)} :
    ∃ cs', callD tbl (n + 12) "law" [⟨.sh, .fl (ns.map D.int)⟩] cs = some (.ok false (.bl true) cs') := by
  rw [callD_of t_law rfl]
  have e0 : ∀ l : List Int, eqD (.lst (l.map D.int)) (.lst []) = some (decide (l = [])) := fun l => eqD_ints (ms := [])
  have e00 : eqD (.lst []) (.lst []) = some true := eqD_ints (ns := []) (ms := [])
  simp -implicitDefEqProofs -dsimp (maxSteps := 2000000) [cut_map, e0]
  generalize cut ns none (some 16) = l
  by_cases hl : l = []
  · simp -implicitDefEqProofs -dsimp (maxSteps := 2000000) [hl]
    rw [show [D.int 0] = [(0 : Int)].map D.int from rfl]
    generalize [(0 : Int)] = l'
    generalize hx : forL _ _ _ _ = x
    obtain ⟨s', rfl, j_cell, j_text, j_due, j_k, rfl, hj_cell, hj_text, hj_due, hf_k⟩ := forL_inv hx rfl (fun k s => ∃ (j_cell j_text j_due j_k : Option Sl), s = ⟨[some ⟨.sh, .fl (ns.map D.int)⟩, some ⟨.lk, .lst (l'.map D.int)⟩, j_cell, j_text, j_due, j_k], cs⟩ ∧ locked (some j_cell) = false ∧ locked (some j_text) = false ∧ locked (some j_due) = false ∧ fre j_k = true) ⟨_, _, _, _, rfl, (by first | rfl | exact hj_cell | exact hj_cell | assumption), (by first | rfl | exact hj_text | exact hj_text | assumption), (by first | rfl | exact hj_due | exact hj_due | assumption), (by first | rfl | exact hf_k | exact hj_k | assumption)⟩ (fun k hk s hI => by
      clear hx
      obtain ⟨j_cell, j_text, j_due, j_k, hs', hj_cell, hj_text, hj_due, hf_k⟩ := hI
      subst hs'
      have hj_k := fre_locked hf_k
      have hk' : k < l'.length := by simpa using hk
      generalize l'[k] = cell at *
      obtain ⟨row, e1, r1, r2, r3⟩ := law_rowB_ok (n := n + 9) (c := cell) (most := 200) (cs := cs) (by decide)
      have s0 := law_stir_ok (n := n + 10) (c := cell) (k := 300) (cs := cs) (by decide)
      have s1 := law_stir_ok (n := n + 10) (c := cell) (k := 301) (cs := cs) (by decide)
      have q0 := law_text_ok (n := n + 10) (κ := .sh) (by decide) (ns := row) (cs := cs) r3 (by omega)
      have hl0 := rowT_len r3
      have hA0 := rowT_asc (ns := row)
      generalize rowT row = T at *
      by_cases c0 : stir cell 300 % 5 = 0
      · obtain ⟨T, hT⟩ : ∃ T : List Nat, T = [] := ⟨_, rfl⟩
        have ls : Str.ofString "" = tx T := by rw [hT]; rfl
        have hA : Asc T := by rw [hT]; exact fun c h => nomatch h
        have hl : T.length ≤ 6400 := by rw [hT]; decide
        clear hT
        by_cases c1 : 0 < stir cell 301 % 4
        · obtain ⟨T, q1, hA, hl1⟩ := law_spoilt_ok (n := n + 9) (c := cell) (k := 302) (cs := cs) (by decide) hA (by omega)
          have hl : T.length ≤ 40000 := by omega
          by_cases c2 : stir cell 301 % 2 = 1
          · obtain ⟨T, q2, hA, hl2⟩ := law_spoilt_ok (n := n + 9) (c := cell) (k := 306) (cs := cs) (by decide) hA (by omega)
            have hl : T.length ≤ 200000 := by omega
            have hc := wrds_count (t := T)
            have r1 := law_textdue_ok (n := n + 10) (cs := cs) hA (by omega) (by omega)
            have r2 := law_refused_ok (n := n + 7) (cs := cs) hA (by omega) (by omega)
            have r3 := read_row_any (n := n + 8) (cs := cs) hA (by omega) (by omega)
            by_cases hg : ∀ w ∈ wrds T, NumOk w
            · rw [if_pos hg] at r1 r2 r3
              have r3' : (wrds T).map (fun w => D.int (numV w)) = ((wrds T).map numV).map D.int := by rw [List.map_map]; rfl
              rw [r3'] at r3
              have hne : (wrds T).map numV ≠ [] := fun e => wrds_ne (List.map_eq_nil_iff.mp e)
              have q4 := SameAt.lst (n := n + 10) (fun a b => SameAt.int (n := n + 9) (a := a) (b := b)) (la := (wrds T).map numV) (lb := (wrds T).map numV) (by rw [List.length_map]; omega) .sh .lk cs (by decide) (by decide)
              rw [decide_eq_true rfl] at q4
              generalize (wrds T).map numV = R at *
              simp -implicitDefEqProofs -dsimp (maxSteps := 2000000) [turn, hj_cell, hj_text, hj_due, hf_k, hj_k, and_assoc, e1, q0, s0, s1, ls, c0, c1, c2, q1, q2, r1, r2, e0, hne]
              rw [bl_some (lc0 (List.range 0) (fun (k : Nat) => D.int (k : Int)) (fun _ => true) (fun k => D.bl (decide ((k : Int) = 4))) ?_ ?_ ?_ ?_)]
              rotate_left
              · simp -implicitDefEqProofs -dsimp (maxSteps := 2000000) [e0, e00, hne, rng1 (j := 0) (m := 0)]
              · simp -implicitDefEqProofs -dsimp (maxSteps := 2000000) [turn, hj_cell, hj_text, hj_due, hf_k, hj_k, and_assoc]
              · decide
              · intro d _
                simp -implicitDefEqProofs -dsimp (maxSteps := 2000000) [wipeE]
              rw [show (((List.range 0).filter fun _ => true).map fun (k : Nat) => D.bl (decide ((k : Int) = 4))) = ([] : List D) from rfl]
              simp -implicitDefEqProofs -dsimp (maxSteps := 2000000) [turn, hj_cell, hj_text, hj_due, hf_k, hj_k, and_assoc, e1, q0, s0, s1, ls, c0, c1, c2, q1, q2, r1, r2, r3, q4, e0, e00, hne]
            · rw [if_neg hg] at r1 r2 r3
              simp -implicitDefEqProofs -dsimp (maxSteps := 2000000) [turn, hj_cell, hj_text, hj_due, hf_k, hj_k, and_assoc, e1, q0, s0, s1, ls, c0, c1, c2, q1, q2, r1, r2, e0, e00]
              have hne := trivial
              rw [bl_some (lc0 (List.range 9) (fun (k : Nat) => D.int (k : Int)) (fun _ => true) (fun k => D.bl (decide ((k : Int) = 4))) ?_ ?_ ?_ ?_)]
              rotate_left
              · simp -implicitDefEqProofs -dsimp (maxSteps := 2000000) [e0, e00, hne, rng1 (j := 9) (m := 9)]
              · simp -implicitDefEqProofs -dsimp (maxSteps := 2000000) [turn, hj_cell, hj_text, hj_due, hf_k, hj_k, and_assoc]
              · decide
              · intro d _
                simp -implicitDefEqProofs -dsimp (maxSteps := 2000000) [wipeE]
              rw [show (((List.range 9).filter fun _ => true).map fun (k : Nat) => D.bl (decide ((k : Int) = 4))) = (flagL 9 4).map D.bl from rfl]
              simp -implicitDefEqProofs -dsimp (maxSteps := 2000000) [turn, hj_cell, hj_text, hj_due, hf_k, hj_k, and_assoc, e1, q0, s0, s1, ls, c0, c1, c2, q1, q2, r1, r2, r3, e0, e00, eqD_bls]
          · have q2 := trivial
            have hl : T.length ≤ 200000 := by omega
            have hc := wrds_count (t := T)
            have r1 := law_textdue_ok (n := n + 10) (cs := cs) hA (by omega) (by omega)
            have r2 := law_refused_ok (n := n + 7) (cs := cs) hA (by omega) (by omega)
            have r3 := read_row_any (n := n + 8) (cs := cs) hA (by omega) (by omega)
            by_cases hg : ∀ w ∈ wrds T, NumOk w
            · rw [if_pos hg] at r1 r2 r3
              have r3' : (wrds T).map (fun w => D.int (numV w)) = ((wrds T).map numV).map D.int := by rw [List.map_map]; rfl
              rw [r3'] at r3
              have hne : (wrds T).map numV ≠ [] := fun e => wrds_ne (List.map_eq_nil_iff.mp e)
              have q4 := SameAt.lst (n := n + 10) (fun a b => SameAt.int (n := n + 9) (a := a) (b := b)) (la := (wrds T).map numV) (lb := (wrds T).map numV) (by rw [List.length_map]; omega) .sh .lk cs (by decide) (by decide)
              rw [decide_eq_true rfl] at q4
              generalize (wrds T).map numV = R at *
              simp -implicitDefEqProofs -dsimp (maxSteps := 2000000) [turn, hj_cell, hj_text, hj_due, hf_k, hj_k, and_assoc, e1, q0, s0, s1, ls, c0, c1, c2, q1, q2, r1, r2, e0, hne]
              rw [bl_some (lc0 (List.range 0) (fun (k : Nat) => D.int (k : Int)) (fun _ => true) (fun k => D.bl (decide ((k : Int) = 4))) ?_ ?_ ?_ ?_)]
              rotate_left
              · simp -implicitDefEqProofs -dsimp (maxSteps := 2000000) [e0, e00, hne, rng1 (j := 0) (m := 0)]
              · simp -implicitDefEqProofs -dsimp (maxSteps := 2000000) [turn, hj_cell, hj_text, hj_due, hf_k, hj_k, and_assoc]
              · decide
              · intro d _
                simp -implicitDefEqProofs -dsimp (maxSteps := 2000000) [wipeE]
              rw [show (((List.range 0).filter fun _ => true).map fun (k : Nat) => D.bl (decide ((k : Int) = 4))) = ([] : List D) from rfl]
              simp -implicitDefEqProofs -dsimp (maxSteps := 2000000) [turn, hj_cell, hj_text, hj_due, hf_k, hj_k, and_assoc, e1, q0, s0, s1, ls, c0, c1, c2, q1, q2, r1, r2, r3, q4, e0, e00, hne]
            · rw [if_neg hg] at r1 r2 r3
              simp -implicitDefEqProofs -dsimp (maxSteps := 2000000) [turn, hj_cell, hj_text, hj_due, hf_k, hj_k, and_assoc, e1, q0, s0, s1, ls, c0, c1, c2, q1, q2, r1, r2, e0, e00]
              have hne := trivial
              rw [bl_some (lc0 (List.range 9) (fun (k : Nat) => D.int (k : Int)) (fun _ => true) (fun k => D.bl (decide ((k : Int) = 4))) ?_ ?_ ?_ ?_)]
              rotate_left
              · simp -implicitDefEqProofs -dsimp (maxSteps := 2000000) [e0, e00, hne, rng1 (j := 9) (m := 9)]
              · simp -implicitDefEqProofs -dsimp (maxSteps := 2000000) [turn, hj_cell, hj_text, hj_due, hf_k, hj_k, and_assoc]
              · decide
              · intro d _
                simp -implicitDefEqProofs -dsimp (maxSteps := 2000000) [wipeE]
              rw [show (((List.range 9).filter fun _ => true).map fun (k : Nat) => D.bl (decide ((k : Int) = 4))) = (flagL 9 4).map D.bl from rfl]
              simp -implicitDefEqProofs -dsimp (maxSteps := 2000000) [turn, hj_cell, hj_text, hj_due, hf_k, hj_k, and_assoc, e1, q0, s0, s1, ls, c0, c1, c2, q1, q2, r1, r2, r3, e0, e00, eqD_bls]
        · have q1 := trivial
          have hl : T.length ≤ 40000 := by omega
          by_cases c2 : stir cell 301 % 2 = 1
          · obtain ⟨T, q2, hA, hl2⟩ := law_spoilt_ok (n := n + 9) (c := cell) (k := 306) (cs := cs) (by decide) hA (by omega)
            have hl : T.length ≤ 200000 := by omega
            have hc := wrds_count (t := T)
            have r1 := law_textdue_ok (n := n + 10) (cs := cs) hA (by omega) (by omega)
            have r2 := law_refused_ok (n := n + 7) (cs := cs) hA (by omega) (by omega)
            have r3 := read_row_any (n := n + 8) (cs := cs) hA (by omega) (by omega)
            by_cases hg : ∀ w ∈ wrds T, NumOk w
            · rw [if_pos hg] at r1 r2 r3
              have r3' : (wrds T).map (fun w => D.int (numV w)) = ((wrds T).map numV).map D.int := by rw [List.map_map]; rfl
              rw [r3'] at r3
              have hne : (wrds T).map numV ≠ [] := fun e => wrds_ne (List.map_eq_nil_iff.mp e)
              have q4 := SameAt.lst (n := n + 10) (fun a b => SameAt.int (n := n + 9) (a := a) (b := b)) (la := (wrds T).map numV) (lb := (wrds T).map numV) (by rw [List.length_map]; omega) .sh .lk cs (by decide) (by decide)
              rw [decide_eq_true rfl] at q4
              generalize (wrds T).map numV = R at *
              simp -implicitDefEqProofs -dsimp (maxSteps := 2000000) [turn, hj_cell, hj_text, hj_due, hf_k, hj_k, and_assoc, e1, q0, s0, s1, ls, c0, c1, c2, q1, q2, r1, r2, e0, hne]
              rw [bl_some (lc0 (List.range 0) (fun (k : Nat) => D.int (k : Int)) (fun _ => true) (fun k => D.bl (decide ((k : Int) = 4))) ?_ ?_ ?_ ?_)]
              rotate_left
              · simp -implicitDefEqProofs -dsimp (maxSteps := 2000000) [e0, e00, hne, rng1 (j := 0) (m := 0)]
              · simp -implicitDefEqProofs -dsimp (maxSteps := 2000000) [turn, hj_cell, hj_text, hj_due, hf_k, hj_k, and_assoc]
              · decide
              · intro d _
                simp -implicitDefEqProofs -dsimp (maxSteps := 2000000) [wipeE]
              rw [show (((List.range 0).filter fun _ => true).map fun (k : Nat) => D.bl (decide ((k : Int) = 4))) = ([] : List D) from rfl]
              simp -implicitDefEqProofs -dsimp (maxSteps := 2000000) [turn, hj_cell, hj_text, hj_due, hf_k, hj_k, and_assoc, e1, q0, s0, s1, ls, c0, c1, c2, q1, q2, r1, r2, r3, q4, e0, e00, hne]
            · rw [if_neg hg] at r1 r2 r3
              simp -implicitDefEqProofs -dsimp (maxSteps := 2000000) [turn, hj_cell, hj_text, hj_due, hf_k, hj_k, and_assoc, e1, q0, s0, s1, ls, c0, c1, c2, q1, q2, r1, r2, e0, e00]
              have hne := trivial
              rw [bl_some (lc0 (List.range 9) (fun (k : Nat) => D.int (k : Int)) (fun _ => true) (fun k => D.bl (decide ((k : Int) = 4))) ?_ ?_ ?_ ?_)]
              rotate_left
              · simp -implicitDefEqProofs -dsimp (maxSteps := 2000000) [e0, e00, hne, rng1 (j := 9) (m := 9)]
              · simp -implicitDefEqProofs -dsimp (maxSteps := 2000000) [turn, hj_cell, hj_text, hj_due, hf_k, hj_k, and_assoc]
              · decide
              · intro d _
                simp -implicitDefEqProofs -dsimp (maxSteps := 2000000) [wipeE]
              rw [show (((List.range 9).filter fun _ => true).map fun (k : Nat) => D.bl (decide ((k : Int) = 4))) = (flagL 9 4).map D.bl from rfl]
              simp -implicitDefEqProofs -dsimp (maxSteps := 2000000) [turn, hj_cell, hj_text, hj_due, hf_k, hj_k, and_assoc, e1, q0, s0, s1, ls, c0, c1, c2, q1, q2, r1, r2, r3, e0, e00, eqD_bls]
          · have q2 := trivial
            have hl : T.length ≤ 200000 := by omega
            have hc := wrds_count (t := T)
            have r1 := law_textdue_ok (n := n + 10) (cs := cs) hA (by omega) (by omega)
            have r2 := law_refused_ok (n := n + 7) (cs := cs) hA (by omega) (by omega)
            have r3 := read_row_any (n := n + 8) (cs := cs) hA (by omega) (by omega)
            by_cases hg : ∀ w ∈ wrds T, NumOk w
            · rw [if_pos hg] at r1 r2 r3
              have r3' : (wrds T).map (fun w => D.int (numV w)) = ((wrds T).map numV).map D.int := by rw [List.map_map]; rfl
              rw [r3'] at r3
              have hne : (wrds T).map numV ≠ [] := fun e => wrds_ne (List.map_eq_nil_iff.mp e)
              have q4 := SameAt.lst (n := n + 10) (fun a b => SameAt.int (n := n + 9) (a := a) (b := b)) (la := (wrds T).map numV) (lb := (wrds T).map numV) (by rw [List.length_map]; omega) .sh .lk cs (by decide) (by decide)
              rw [decide_eq_true rfl] at q4
              generalize (wrds T).map numV = R at *
              simp -implicitDefEqProofs -dsimp (maxSteps := 2000000) [turn, hj_cell, hj_text, hj_due, hf_k, hj_k, and_assoc, e1, q0, s0, s1, ls, c0, c1, c2, q1, q2, r1, r2, e0, hne]
              rw [bl_some (lc0 (List.range 0) (fun (k : Nat) => D.int (k : Int)) (fun _ => true) (fun k => D.bl (decide ((k : Int) = 4))) ?_ ?_ ?_ ?_)]
              rotate_left
              · simp -implicitDefEqProofs -dsimp (maxSteps := 2000000) [e0, e00, hne, rng1 (j := 0) (m := 0)]
              · simp -implicitDefEqProofs -dsimp (maxSteps := 2000000) [turn, hj_cell, hj_text, hj_due, hf_k, hj_k, and_assoc]
              · decide
              · intro d _
                simp -implicitDefEqProofs -dsimp (maxSteps := 2000000) [wipeE]
              rw [show (((List.range 0).filter fun _ => true).map fun (k : Nat) => D.bl (decide ((k : Int) = 4))) = ([] : List D) from rfl]
              simp -implicitDefEqProofs -dsimp (maxSteps := 2000000) [turn, hj_cell, hj_text, hj_due, hf_k, hj_k, and_assoc, e1, q0, s0, s1, ls, c0, c1, c2, q1, q2, r1, r2, r3, q4, e0, e00, hne]
            · rw [if_neg hg] at r1 r2 r3
              simp -implicitDefEqProofs -dsimp (maxSteps := 2000000) [turn, hj_cell, hj_text, hj_due, hf_k, hj_k, and_assoc, e1, q0, s0, s1, ls, c0, c1, c2, q1, q2, r1, r2, e0, e00]
              have hne := trivial
              rw [bl_some (lc0 (List.range 9) (fun (k : Nat) => D.int (k : Int)) (fun _ => true) (fun k => D.bl (decide ((k : Int) = 4))) ?_ ?_ ?_ ?_)]
              rotate_left
              · simp -implicitDefEqProofs -dsimp (maxSteps := 2000000) [e0, e00, hne, rng1 (j := 9) (m := 9)]
              · simp -implicitDefEqProofs -dsimp (maxSteps := 2000000) [turn, hj_cell, hj_text, hj_due, hf_k, hj_k, and_assoc]
              · decide
              · intro d _
                simp -implicitDefEqProofs -dsimp (maxSteps := 2000000) [wipeE]
              rw [show (((List.range 9).filter fun _ => true).map fun (k : Nat) => D.bl (decide ((k : Int) = 4))) = (flagL 9 4).map D.bl from rfl]
              simp -implicitDefEqProofs -dsimp (maxSteps := 2000000) [turn, hj_cell, hj_text, hj_due, hf_k, hj_k, and_assoc, e1, q0, s0, s1, ls, c0, c1, c2, q1, q2, r1, r2, r3, e0, e00, eqD_bls]
      · have ls := trivial
        have hA := hA0
        have hl : T.length ≤ 6400 := by omega
        by_cases c1 : 0 < stir cell 301 % 4
        · obtain ⟨T, q1, hA, hl1⟩ := law_spoilt_ok (n := n + 9) (c := cell) (k := 302) (cs := cs) (by decide) hA (by omega)
          have hl : T.length ≤ 40000 := by omega
          by_cases c2 : stir cell 301 % 2 = 1
          · obtain ⟨T, q2, hA, hl2⟩ := law_spoilt_ok (n := n + 9) (c := cell) (k := 306) (cs := cs) (by decide) hA (by omega)
            have hl : T.length ≤ 200000 := by omega
            have hc := wrds_count (t := T)
            have r1 := law_textdue_ok (n := n + 10) (cs := cs) hA (by omega) (by omega)
            have r2 := law_refused_ok (n := n + 7) (cs := cs) hA (by omega) (by omega)
            have r3 := read_row_any (n := n + 8) (cs := cs) hA (by omega) (by omega)
            by_cases hg : ∀ w ∈ wrds T, NumOk w
            · rw [if_pos hg] at r1 r2 r3
              have r3' : (wrds T).map (fun w => D.int (numV w)) = ((wrds T).map numV).map D.int := by rw [List.map_map]; rfl
              rw [r3'] at r3
              have hne : (wrds T).map numV ≠ [] := fun e => wrds_ne (List.map_eq_nil_iff.mp e)
              have q4 := SameAt.lst (n := n + 10) (fun a b => SameAt.int (n := n + 9) (a := a) (b := b)) (la := (wrds T).map numV) (lb := (wrds T).map numV) (by rw [List.length_map]; omega) .sh .lk cs (by decide) (by decide)
              rw [decide_eq_true rfl] at q4
              generalize (wrds T).map numV = R at *
              simp -implicitDefEqProofs -dsimp (maxSteps := 2000000) [turn, hj_cell, hj_text, hj_due, hf_k, hj_k, and_assoc, e1, q0, s0, s1, ls, c0, c1, c2, q1, q2, r1, r2, e0, hne]
              rw [bl_some (lc0 (List.range 0) (fun (k : Nat) => D.int (k : Int)) (fun _ => true) (fun k => D.bl (decide ((k : Int) = 4))) ?_ ?_ ?_ ?_)]
              rotate_left
              · simp -implicitDefEqProofs -dsimp (maxSteps := 2000000) [e0, e00, hne, rng1 (j := 0) (m := 0)]
              · simp -implicitDefEqProofs -dsimp (maxSteps := 2000000) [turn, hj_cell, hj_text, hj_due, hf_k, hj_k, and_assoc]
              · decide
              · intro d _
                simp -implicitDefEqProofs -dsimp (maxSteps := 2000000) [wipeE]
              rw [show (((List.range 0).filter fun _ => true).map fun (k : Nat) => D.bl (decide ((k : Int) = 4))) = ([] : List D) from rfl]
              simp -implicitDefEqProofs -dsimp (maxSteps := 2000000) [turn, hj_cell, hj_text, hj_due, hf_k, hj_k, and_assoc, e1, q0, s0, s1, ls, c0, c1, c2, q1, q2, r1, r2, r3, q4, e0, e00, hne]
            · rw [if_neg hg] at r1 r2 r3
              simp -implicitDefEqProofs -dsimp (maxSteps := 2000000) [turn, hj_cell, hj_text, hj_due, hf_k, hj_k, and_assoc, e1, q0, s0, s1, ls, c0, c1, c2, q1, q2, r1, r2, e0, e00]
              have hne := trivial
              rw [bl_some (lc0 (List.range 9) (fun (k : Nat) => D.int (k : Int)) (fun _ => true) (fun k => D.bl (decide ((k : Int) = 4))) ?_ ?_ ?_ ?_)]
              rotate_left
              · simp -implicitDefEqProofs -dsimp (maxSteps := 2000000) [e0, e00, hne, rng1 (j := 9) (m := 9)]
              · simp -implicitDefEqProofs -dsimp (maxSteps := 2000000) [turn, hj_cell, hj_text, hj_due, hf_k, hj_k, and_assoc]
              · decide
              · intro d _
                simp -implicitDefEqProofs -dsimp (maxSteps := 2000000) [wipeE]
              rw [show (((List.range 9).filter fun _ => true).map fun (k : Nat) => D.bl (decide ((k : Int) = 4))) = (flagL 9 4).map D.bl from rfl]
              simp -implicitDefEqProofs -dsimp (maxSteps := 2000000) [turn, hj_cell, hj_text, hj_due, hf_k, hj_k, and_assoc, e1, q0, s0, s1, ls, c0, c1, c2, q1, q2, r1, r2, r3, e0, e00, eqD_bls]
          · have q2 := trivial
            have hl : T.length ≤ 200000 := by omega
            have hc := wrds_count (t := T)
            have r1 := law_textdue_ok (n := n + 10) (cs := cs) hA (by omega) (by omega)
            have r2 := law_refused_ok (n := n + 7) (cs := cs) hA (by omega) (by omega)
            have r3 := read_row_any (n := n + 8) (cs := cs) hA (by omega) (by omega)
            by_cases hg : ∀ w ∈ wrds T, NumOk w
            · rw [if_pos hg] at r1 r2 r3
              have r3' : (wrds T).map (fun w => D.int (numV w)) = ((wrds T).map numV).map D.int := by rw [List.map_map]; rfl
              rw [r3'] at r3
              have hne : (wrds T).map numV ≠ [] := fun e => wrds_ne (List.map_eq_nil_iff.mp e)
              have q4 := SameAt.lst (n := n + 10) (fun a b => SameAt.int (n := n + 9) (a := a) (b := b)) (la := (wrds T).map numV) (lb := (wrds T).map numV) (by rw [List.length_map]; omega) .sh .lk cs (by decide) (by decide)
              rw [decide_eq_true rfl] at q4
              generalize (wrds T).map numV = R at *
              simp -implicitDefEqProofs -dsimp (maxSteps := 2000000) [turn, hj_cell, hj_text, hj_due, hf_k, hj_k, and_assoc, e1, q0, s0, s1, ls, c0, c1, c2, q1, q2, r1, r2, e0, hne]
              rw [bl_some (lc0 (List.range 0) (fun (k : Nat) => D.int (k : Int)) (fun _ => true) (fun k => D.bl (decide ((k : Int) = 4))) ?_ ?_ ?_ ?_)]
              rotate_left
              · simp -implicitDefEqProofs -dsimp (maxSteps := 2000000) [e0, e00, hne, rng1 (j := 0) (m := 0)]
              · simp -implicitDefEqProofs -dsimp (maxSteps := 2000000) [turn, hj_cell, hj_text, hj_due, hf_k, hj_k, and_assoc]
              · decide
              · intro d _
                simp -implicitDefEqProofs -dsimp (maxSteps := 2000000) [wipeE]
              rw [show (((List.range 0).filter fun _ => true).map fun (k : Nat) => D.bl (decide ((k : Int) = 4))) = ([] : List D) from rfl]
              simp -implicitDefEqProofs -dsimp (maxSteps := 2000000) [turn, hj_cell, hj_text, hj_due, hf_k, hj_k, and_assoc, e1, q0, s0, s1, ls, c0, c1, c2, q1, q2, r1, r2, r3, q4, e0, e00, hne]
            · rw [if_neg hg] at r1 r2 r3
              simp -implicitDefEqProofs -dsimp (maxSteps := 2000000) [turn, hj_cell, hj_text, hj_due, hf_k, hj_k, and_assoc, e1, q0, s0, s1, ls, c0, c1, c2, q1, q2, r1, r2, e0, e00]
              have hne := trivial
              rw [bl_some (lc0 (List.range 9) (fun (k : Nat) => D.int (k : Int)) (fun _ => true) (fun k => D.bl (decide ((k : Int) = 4))) ?_ ?_ ?_ ?_)]
              rotate_left
              · simp -implicitDefEqProofs -dsimp (maxSteps := 2000000) [e0, e00, hne, rng1 (j := 9) (m := 9)]
              · simp -implicitDefEqProofs -dsimp (maxSteps := 2000000) [turn, hj_cell, hj_text, hj_due, hf_k, hj_k, and_assoc]
              · decide
              · intro d _
                simp -implicitDefEqProofs -dsimp (maxSteps := 2000000) [wipeE]
              rw [show (((List.range 9).filter fun _ => true).map fun (k : Nat) => D.bl (decide ((k : Int) = 4))) = (flagL 9 4).map D.bl from rfl]
              simp -implicitDefEqProofs -dsimp (maxSteps := 2000000) [turn, hj_cell, hj_text, hj_due, hf_k, hj_k, and_assoc, e1, q0, s0, s1, ls, c0, c1, c2, q1, q2, r1, r2, r3, e0, e00, eqD_bls]
        · have q1 := trivial
          have hl : T.length ≤ 40000 := by omega
          by_cases c2 : stir cell 301 % 2 = 1
          · obtain ⟨T, q2, hA, hl2⟩ := law_spoilt_ok (n := n + 9) (c := cell) (k := 306) (cs := cs) (by decide) hA (by omega)
            have hl : T.length ≤ 200000 := by omega
            have hc := wrds_count (t := T)
            have r1 := law_textdue_ok (n := n + 10) (cs := cs) hA (by omega) (by omega)
            have r2 := law_refused_ok (n := n + 7) (cs := cs) hA (by omega) (by omega)
            have r3 := read_row_any (n := n + 8) (cs := cs) hA (by omega) (by omega)
            by_cases hg : ∀ w ∈ wrds T, NumOk w
            · rw [if_pos hg] at r1 r2 r3
              have r3' : (wrds T).map (fun w => D.int (numV w)) = ((wrds T).map numV).map D.int := by rw [List.map_map]; rfl
              rw [r3'] at r3
              have hne : (wrds T).map numV ≠ [] := fun e => wrds_ne (List.map_eq_nil_iff.mp e)
              have q4 := SameAt.lst (n := n + 10) (fun a b => SameAt.int (n := n + 9) (a := a) (b := b)) (la := (wrds T).map numV) (lb := (wrds T).map numV) (by rw [List.length_map]; omega) .sh .lk cs (by decide) (by decide)
              rw [decide_eq_true rfl] at q4
              generalize (wrds T).map numV = R at *
              simp -implicitDefEqProofs -dsimp (maxSteps := 2000000) [turn, hj_cell, hj_text, hj_due, hf_k, hj_k, and_assoc, e1, q0, s0, s1, ls, c0, c1, c2, q1, q2, r1, r2, e0, hne]
              rw [bl_some (lc0 (List.range 0) (fun (k : Nat) => D.int (k : Int)) (fun _ => true) (fun k => D.bl (decide ((k : Int) = 4))) ?_ ?_ ?_ ?_)]
              rotate_left
              · simp -implicitDefEqProofs -dsimp (maxSteps := 2000000) [e0, e00, hne, rng1 (j := 0) (m := 0)]
              · simp -implicitDefEqProofs -dsimp (maxSteps := 2000000) [turn, hj_cell, hj_text, hj_due, hf_k, hj_k, and_assoc]
              · decide
              · intro d _
                simp -implicitDefEqProofs -dsimp (maxSteps := 2000000) [wipeE]
              rw [show (((List.range 0).filter fun _ => true).map fun (k : Nat) => D.bl (decide ((k : Int) = 4))) = ([] : List D) from rfl]
              simp -implicitDefEqProofs -dsimp (maxSteps := 2000000) [turn, hj_cell, hj_text, hj_due, hf_k, hj_k, and_assoc, e1, q0, s0, s1, ls, c0, c1, c2, q1, q2, r1, r2, r3, q4, e0, e00, hne]
            · rw [if_neg hg] at r1 r2 r3
              simp -implicitDefEqProofs -dsimp (maxSteps := 2000000) [turn, hj_cell, hj_text, hj_due, hf_k, hj_k, and_assoc, e1, q0, s0, s1, ls, c0, c1, c2, q1, q2, r1, r2, e0, e00]
              have hne := trivial
              rw [bl_some (lc0 (List.range 9) (fun (k : Nat) => D.int (k : Int)) (fun _ => true) (fun k => D.bl (decide ((k : Int) = 4))) ?_ ?_ ?_ ?_)]
              rotate_left
              · simp -implicitDefEqProofs -dsimp (maxSteps := 2000000) [e0, e00, hne, rng1 (j := 9) (m := 9)]
              · simp -implicitDefEqProofs -dsimp (maxSteps := 2000000) [turn, hj_cell, hj_text, hj_due, hf_k, hj_k, and_assoc]
              · decide
              · intro d _
                simp -implicitDefEqProofs -dsimp (maxSteps := 2000000) [wipeE]
              rw [show (((List.range 9).filter fun _ => true).map fun (k : Nat) => D.bl (decide ((k : Int) = 4))) = (flagL 9 4).map D.bl from rfl]
              simp -implicitDefEqProofs -dsimp (maxSteps := 2000000) [turn, hj_cell, hj_text, hj_due, hf_k, hj_k, and_assoc, e1, q0, s0, s1, ls, c0, c1, c2, q1, q2, r1, r2, r3, e0, e00, eqD_bls]
          · have q2 := trivial
            have hl : T.length ≤ 200000 := by omega
            have hc := wrds_count (t := T)
            have r1 := law_textdue_ok (n := n + 10) (cs := cs) hA (by omega) (by omega)
            have r2 := law_refused_ok (n := n + 7) (cs := cs) hA (by omega) (by omega)
            have r3 := read_row_any (n := n + 8) (cs := cs) hA (by omega) (by omega)
            by_cases hg : ∀ w ∈ wrds T, NumOk w
            · rw [if_pos hg] at r1 r2 r3
              have r3' : (wrds T).map (fun w => D.int (numV w)) = ((wrds T).map numV).map D.int := by rw [List.map_map]; rfl
              rw [r3'] at r3
              have hne : (wrds T).map numV ≠ [] := fun e => wrds_ne (List.map_eq_nil_iff.mp e)
              have q4 := SameAt.lst (n := n + 10) (fun a b => SameAt.int (n := n + 9) (a := a) (b := b)) (la := (wrds T).map numV) (lb := (wrds T).map numV) (by rw [List.length_map]; omega) .sh .lk cs (by decide) (by decide)
              rw [decide_eq_true rfl] at q4
              generalize (wrds T).map numV = R at *
              simp -implicitDefEqProofs -dsimp (maxSteps := 2000000) [turn, hj_cell, hj_text, hj_due, hf_k, hj_k, and_assoc, e1, q0, s0, s1, ls, c0, c1, c2, q1, q2, r1, r2, e0, hne]
              rw [bl_some (lc0 (List.range 0) (fun (k : Nat) => D.int (k : Int)) (fun _ => true) (fun k => D.bl (decide ((k : Int) = 4))) ?_ ?_ ?_ ?_)]
              rotate_left
              · simp -implicitDefEqProofs -dsimp (maxSteps := 2000000) [e0, e00, hne, rng1 (j := 0) (m := 0)]
              · simp -implicitDefEqProofs -dsimp (maxSteps := 2000000) [turn, hj_cell, hj_text, hj_due, hf_k, hj_k, and_assoc]
              · decide
              · intro d _
                simp -implicitDefEqProofs -dsimp (maxSteps := 2000000) [wipeE]
              rw [show (((List.range 0).filter fun _ => true).map fun (k : Nat) => D.bl (decide ((k : Int) = 4))) = ([] : List D) from rfl]
              simp -implicitDefEqProofs -dsimp (maxSteps := 2000000) [turn, hj_cell, hj_text, hj_due, hf_k, hj_k, and_assoc, e1, q0, s0, s1, ls, c0, c1, c2, q1, q2, r1, r2, r3, q4, e0, e00, hne]
            · rw [if_neg hg] at r1 r2 r3
              simp -implicitDefEqProofs -dsimp (maxSteps := 2000000) [turn, hj_cell, hj_text, hj_due, hf_k, hj_k, and_assoc, e1, q0, s0, s1, ls, c0, c1, c2, q1, q2, r1, r2, e0, e00]
              have hne := trivial
              rw [bl_some (lc0 (List.range 9) (fun (k : Nat) => D.int (k : Int)) (fun _ => true) (fun k => D.bl (decide ((k : Int) = 4))) ?_ ?_ ?_ ?_)]
              rotate_left
              · simp -implicitDefEqProofs -dsimp (maxSteps := 2000000) [e0, e00, hne, rng1 (j := 9) (m := 9)]
              · simp -implicitDefEqProofs -dsimp (maxSteps := 2000000) [turn, hj_cell, hj_text, hj_due, hf_k, hj_k, and_assoc]
              · decide
              · intro d _
                simp -implicitDefEqProofs -dsimp (maxSteps := 2000000) [wipeE]
              rw [show (((List.range 9).filter fun _ => true).map fun (k : Nat) => D.bl (decide ((k : Int) = 4))) = (flagL 9 4).map D.bl from rfl]
              simp -implicitDefEqProofs -dsimp (maxSteps := 2000000) [turn, hj_cell, hj_text, hj_due, hf_k, hj_k, and_assoc, e1, q0, s0, s1, ls, c0, c1, c2, q1, q2, r1, r2, r3, e0, e00, eqD_bls])
    have hj_k := fre_locked hf_k
    simp -implicitDefEqProofs -dsimp (maxSteps := 2000000) []
  · simp -implicitDefEqProofs -dsimp (maxSteps := 2000000) [hl]
    obtain ⟨l', hl'⟩ : ∃ l', l' = l := ⟨_, rfl⟩
    rw [← hl']
    generalize hx : forL _ _ _ _ = x
    obtain ⟨s', rfl, j_cell, j_text, j_due, j_k, rfl, hj_cell, hj_text, hj_due, hf_k⟩ := forL_inv hx rfl (fun k s => ∃ (j_cell j_text j_due j_k : Option Sl), s = ⟨[some ⟨.sh, .fl (ns.map D.int)⟩, some ⟨.lk, .lst (l'.map D.int)⟩, j_cell, j_text, j_due, j_k], cs⟩ ∧ locked (some j_cell) = false ∧ locked (some j_text) = false ∧ locked (some j_due) = false ∧ fre j_k = true) ⟨_, _, _, _, rfl, (by first | rfl | exact hj_cell | exact hj_cell | assumption), (by first | rfl | exact hj_text | exact hj_text | assumption), (by first | rfl | exact hj_due | exact hj_due | assumption), (by first | rfl | exact hf_k | exact hj_k | assumption)⟩ (fun k hk s hI => by
      clear hx
      obtain ⟨j_cell, j_text, j_due, j_k, hs', hj_cell, hj_text, hj_due, hf_k⟩ := hI
      subst hs'
      have hj_k := fre_locked hf_k
      have hk' : k < l'.length := by simpa using hk
      generalize l'[k] = cell at *
      obtain ⟨row, e1, r1, r2, r3⟩ := law_rowB_ok (n := n + 9) (c := cell) (most := 200) (cs := cs) (by decide)
      have s0 := law_stir_ok (n := n + 10) (c := cell) (k := 300) (cs := cs) (by decide)
      have s1 := law_stir_ok (n := n + 10) (c := cell) (k := 301) (cs := cs) (by decide)
      have q0 := law_text_ok (n := n + 10) (κ := .sh) (by decide) (ns := row) (cs := cs) r3 (by omega)
      have hl0 := rowT_len r3
      have hA0 := rowT_asc (ns := row)
      generalize rowT row = T at *
      by_cases c0 : stir cell 300 % 5 = 0
      · obtain ⟨T, hT⟩ : ∃ T : List Nat, T = [] := ⟨_, rfl⟩
        have ls : Str.ofString "" = tx T := by rw [hT]; rfl
        have hA : Asc T := by rw [hT]; exact fun c h => nomatch h
        have hl : T.length ≤ 6400 := by rw [hT]; decide
        clear hT
        by_cases c1 : 0 < stir cell 301 % 4
        · obtain ⟨T, q1, hA, hl1⟩ := law_spoilt_ok (n := n + 9) (c := cell) (k := 302) (cs := cs) (by decide) hA (by omega)
          have hl : T.length ≤ 40000 := by omega
          by_cases c2 : stir cell 301 % 2 = 1
          · obtain ⟨T, q2, hA, hl2⟩ := law_spoilt_ok (n := n + 9) (c := cell) (k := 306) (cs := cs) (by decide) hA (by omega)
            have hl : T.length ≤ 200000 := by omega
            have hc := wrds_count (t := T)
            have r1 := law_textdue_ok (n := n + 10) (cs := cs) hA (by omega) (by omega)
            have r2 := law_refused_ok (n := n + 7) (cs := cs) hA (by omega) (by omega)
            have r3 := read_row_any (n := n + 8) (cs := cs) hA (by omega) (by omega)
            by_cases hg : ∀ w ∈ wrds T, NumOk w
            · rw [if_pos hg] at r1 r2 r3
              have r3' : (wrds T).map (fun w => D.int (numV w)) = ((wrds T).map numV).map D.int := by rw [List.map_map]; rfl
              rw [r3'] at r3
              have hne : (wrds T).map numV ≠ [] := fun e => wrds_ne (List.map_eq_nil_iff.mp e)
              have q4 := SameAt.lst (n := n + 10) (fun a b => SameAt.int (n := n + 9) (a := a) (b := b)) (la := (wrds T).map numV) (lb := (wrds T).map numV) (by rw [List.length_map]; omega) .sh .lk cs (by decide) (by decide)
              rw [decide_eq_true rfl] at q4
              generalize (wrds T).map numV = R at *
              simp -implicitDefEqProofs -dsimp (maxSteps := 2000000) [turn, hj_cell, hj_text, hj_due, hf_k, hj_k, and_assoc, e1, q0, s0, s1, ls, c0, c1, c2, q1, q2, r1, r2, e0, hne]
              rw [bl_some (lc0 (List.range 0) (fun (k : Nat) => D.int (k : Int)) (fun _ => true) (fun k => D.bl (decide ((k : Int) = 4))) ?_ ?_ ?_ ?_)]
              rotate_left
              · simp -implicitDefEqProofs -dsimp (maxSteps := 2000000) [e0, e00, hne, rng1 (j := 0) (m := 0)]
              · simp -implicitDefEqProofs -dsimp (maxSteps := 2000000) [turn, hj_cell, hj_text, hj_due, hf_k, hj_k, and_assoc]
              · decide
              · intro d _
                simp -implicitDefEqProofs -dsimp (maxSteps := 2000000) [wipeE]
              rw [show (((List.range 0).filter fun _ => true).map fun (k : Nat) => D.bl (decide ((k : Int) = 4))) = ([] : List D) from rfl]
              simp -implicitDefEqProofs -dsimp (maxSteps := 2000000) [turn, hj_cell, hj_text, hj_due, hf_k, hj_k, and_assoc, e1, q0, s0, s1, ls, c0, c1, c2, q1, q2, r1, r2, r3, q4, e0, e00, hne]
            · rw [if_neg hg] at r1 r2 r3
              simp -implicitDefEqProofs -dsimp (maxSteps := 2000000) [turn, hj_cell, hj_text, hj_due, hf_k, hj_k, and_assoc, e1, q0, s0, s1, ls, c0, c1, c2, q1, q2, r1, r2, e0, e00]
              have hne := trivial
              rw [bl_some (lc0 (List.range 9) (fun (k : Nat) => D.int (k : Int)) (fun _ => true) (fun k => D.bl (decide ((k : Int) = 4))) ?_ ?_ ?_ ?_)]
              rotate_left
              · simp -implicitDefEqProofs -dsimp (maxSteps := 2000000) [e0, e00, hne, rng1 (j := 9) (m := 9)]
              · simp -implicitDefEqProofs -dsimp (maxSteps := 2000000) [turn, hj_cell, hj_text, hj_due, hf_k, hj_k, and_assoc]
              · decide
              · intro d _
                simp -implicitDefEqProofs -dsimp (maxSteps := 2000000) [wipeE]
              rw [show (((List.range 9).filter fun _ => true).map fun (k : Nat) => D.bl (decide ((k : Int) = 4))) = (flagL 9 4).map D.bl from rfl]
              simp -implicitDefEqProofs -dsimp (maxSteps := 2000000) [turn, hj_cell, hj_text, hj_due, hf_k, hj_k, and_assoc, e1, q0, s0, s1, ls, c0, c1, c2, q1, q2, r1, r2, r3, e0, e00, eqD_bls]
          · have q2 := trivial
            have hl : T.length ≤ 200000 := by omega
            have hc := wrds_count (t := T)
            have r1 := law_textdue_ok (n := n + 10) (cs := cs) hA (by omega) (by omega)
            have r2 := law_refused_ok (n := n + 7) (cs := cs) hA (by omega) (by omega)
            have r3 := read_row_any (n := n + 8) (cs := cs) hA (by omega) (by omega)
            by_cases hg : ∀ w ∈ wrds T, NumOk w
            · rw [if_pos hg] at r1 r2 r3
              have r3' : (wrds T).map (fun w => D.int (numV w)) = ((wrds T).map numV).map D.int := by rw [List.map_map]; rfl
              rw [r3'] at r3
              have hne : (wrds T).map numV ≠ [] := fun e => wrds_ne (List.map_eq_nil_iff.mp e)
              have q4 := SameAt.lst (n := n + 10) (fun a b => SameAt.int (n := n + 9) (a := a) (b := b)) (la := (wrds T).map numV) (lb := (wrds T).map numV) (by rw [List.length_map]; omega) .sh .lk cs (by decide) (by decide)
              rw [decide_eq_true rfl] at q4
              generalize (wrds T).map numV = R at *
              simp -implicitDefEqProofs -dsimp (maxSteps := 2000000) [turn, hj_cell, hj_text, hj_due, hf_k, hj_k, and_assoc, e1, q0, s0, s1, ls, c0, c1, c2, q1, q2, r1, r2, e0, hne]
              rw [bl_some (lc0 (List.range 0) (fun (k : Nat) => D.int (k : Int)) (fun _ => true) (fun k => D.bl (decide ((k : Int) = 4))) ?_ ?_ ?_ ?_)]
              rotate_left
              · simp -implicitDefEqProofs -dsimp (maxSteps := 2000000) [e0, e00, hne, rng1 (j := 0) (m := 0)]
              · simp -implicitDefEqProofs -dsimp (maxSteps := 2000000) [turn, hj_cell, hj_text, hj_due, hf_k, hj_k, and_assoc]
              · decide
              · intro d _
                simp -implicitDefEqProofs -dsimp (maxSteps := 2000000) [wipeE]
              rw [show (((List.range 0).filter fun _ => true).map fun (k : Nat) => D.bl (decide ((k : Int) = 4))) = ([] : List D) from rfl]
              simp -implicitDefEqProofs -dsimp (maxSteps := 2000000) [turn, hj_cell, hj_text, hj_due, hf_k, hj_k, and_assoc, e1, q0, s0, s1, ls, c0, c1, c2, q1, q2, r1, r2, r3, q4, e0, e00, hne]
            · rw [if_neg hg] at r1 r2 r3
              simp -implicitDefEqProofs -dsimp (maxSteps := 2000000) [turn, hj_cell, hj_text, hj_due, hf_k, hj_k, and_assoc, e1, q0, s0, s1, ls, c0, c1, c2, q1, q2, r1, r2, e0, e00]
              have hne := trivial
              rw [bl_some (lc0 (List.range 9) (fun (k : Nat) => D.int (k : Int)) (fun _ => true) (fun k => D.bl (decide ((k : Int) = 4))) ?_ ?_ ?_ ?_)]
              rotate_left
              · simp -implicitDefEqProofs -dsimp (maxSteps := 2000000) [e0, e00, hne, rng1 (j := 9) (m := 9)]
              · simp -implicitDefEqProofs -dsimp (maxSteps := 2000000) [turn, hj_cell, hj_text, hj_due, hf_k, hj_k, and_assoc]
              · decide
              · intro d _
                simp -implicitDefEqProofs -dsimp (maxSteps := 2000000) [wipeE]
              rw [show (((List.range 9).filter fun _ => true).map fun (k : Nat) => D.bl (decide ((k : Int) = 4))) = (flagL 9 4).map D.bl from rfl]
              simp -implicitDefEqProofs -dsimp (maxSteps := 2000000) [turn, hj_cell, hj_text, hj_due, hf_k, hj_k, and_assoc, e1, q0, s0, s1, ls, c0, c1, c2, q1, q2, r1, r2, r3, e0, e00, eqD_bls]
        · have q1 := trivial
          have hl : T.length ≤ 40000 := by omega
          by_cases c2 : stir cell 301 % 2 = 1
          · obtain ⟨T, q2, hA, hl2⟩ := law_spoilt_ok (n := n + 9) (c := cell) (k := 306) (cs := cs) (by decide) hA (by omega)
            have hl : T.length ≤ 200000 := by omega
            have hc := wrds_count (t := T)
            have r1 := law_textdue_ok (n := n + 10) (cs := cs) hA (by omega) (by omega)
            have r2 := law_refused_ok (n := n + 7) (cs := cs) hA (by omega) (by omega)
            have r3 := read_row_any (n := n + 8) (cs := cs) hA (by omega) (by omega)
            by_cases hg : ∀ w ∈ wrds T, NumOk w
            · rw [if_pos hg] at r1 r2 r3
              have r3' : (wrds T).map (fun w => D.int (numV w)) = ((wrds T).map numV).map D.int := by rw [List.map_map]; rfl
              rw [r3'] at r3
              have hne : (wrds T).map numV ≠ [] := fun e => wrds_ne (List.map_eq_nil_iff.mp e)
              have q4 := SameAt.lst (n := n + 10) (fun a b => SameAt.int (n := n + 9) (a := a) (b := b)) (la := (wrds T).map numV) (lb := (wrds T).map numV) (by rw [List.length_map]; omega) .sh .lk cs (by decide) (by decide)
              rw [decide_eq_true rfl] at q4
              generalize (wrds T).map numV = R at *
              simp -implicitDefEqProofs -dsimp (maxSteps := 2000000) [turn, hj_cell, hj_text, hj_due, hf_k, hj_k, and_assoc, e1, q0, s0, s1, ls, c0, c1, c2, q1, q2, r1, r2, e0, hne]
              rw [bl_some (lc0 (List.range 0) (fun (k : Nat) => D.int (k : Int)) (fun _ => true) (fun k => D.bl (decide ((k : Int) = 4))) ?_ ?_ ?_ ?_)]
              rotate_left
              · simp -implicitDefEqProofs -dsimp (maxSteps := 2000000) [e0, e00, hne, rng1 (j := 0) (m := 0)]
              · simp -implicitDefEqProofs -dsimp (maxSteps := 2000000) [turn, hj_cell, hj_text, hj_due, hf_k, hj_k, and_assoc]
              · decide
              · intro d _
                simp -implicitDefEqProofs -dsimp (maxSteps := 2000000) [wipeE]
              rw [show (((List.range 0).filter fun _ => true).map fun (k : Nat) => D.bl (decide ((k : Int) = 4))) = ([] : List D) from rfl]
              simp -implicitDefEqProofs -dsimp (maxSteps := 2000000) [turn, hj_cell, hj_text, hj_due, hf_k, hj_k, and_assoc, e1, q0, s0, s1, ls, c0, c1, c2, q1, q2, r1, r2, r3, q4, e0, e00, hne]
            · rw [if_neg hg] at r1 r2 r3
              simp -implicitDefEqProofs -dsimp (maxSteps := 2000000) [turn, hj_cell, hj_text, hj_due, hf_k, hj_k, and_assoc, e1, q0, s0, s1, ls, c0, c1, c2, q1, q2, r1, r2, e0, e00]
              have hne := trivial
              rw [bl_some (lc0 (List.range 9) (fun (k : Nat) => D.int (k : Int)) (fun _ => true) (fun k => D.bl (decide ((k : Int) = 4))) ?_ ?_ ?_ ?_)]
              rotate_left
              · simp -implicitDefEqProofs -dsimp (maxSteps := 2000000) [e0, e00, hne, rng1 (j := 9) (m := 9)]
              · simp -implicitDefEqProofs -dsimp (maxSteps := 2000000) [turn, hj_cell, hj_text, hj_due, hf_k, hj_k, and_assoc]
              · decide
              · intro d _
                simp -implicitDefEqProofs -dsimp (maxSteps := 2000000) [wipeE]
              rw [show (((List.range 9).filter fun _ => true).map fun (k : Nat) => D.bl (decide ((k : Int) = 4))) = (flagL 9 4).map D.bl from rfl]
              simp -implicitDefEqProofs -dsimp (maxSteps := 2000000) [turn, hj_cell, hj_text, hj_due, hf_k, hj_k, and_assoc, e1, q0, s0, s1, ls, c0, c1, c2, q1, q2, r1, r2, r3, e0, e00, eqD_bls]
          · have q2 := trivial
            have hl : T.length ≤ 200000 := by omega
            have hc := wrds_count (t := T)
            have r1 := law_textdue_ok (n := n + 10) (cs := cs) hA (by omega) (by omega)
            have r2 := law_refused_ok (n := n + 7) (cs := cs) hA (by omega) (by omega)
            have r3 := read_row_any (n := n + 8) (cs := cs) hA (by omega) (by omega)
            by_cases hg : ∀ w ∈ wrds T, NumOk w
            · rw [if_pos hg] at r1 r2 r3
              have r3' : (wrds T).map (fun w => D.int (numV w)) = ((wrds T).map numV).map D.int := by rw [List.map_map]; rfl
              rw [r3'] at r3
              have hne : (wrds T).map numV ≠ [] := fun e => wrds_ne (List.map_eq_nil_iff.mp e)
              have q4 := SameAt.lst (n := n + 10) (fun a b => SameAt.int (n := n + 9) (a := a) (b := b)) (la := (wrds T).map numV) (lb := (wrds T).map numV) (by rw [List.length_map]; omega) .sh .lk cs (by decide) (by decide)
              rw [decide_eq_true rfl] at q4
              generalize (wrds T).map numV = R at *
              simp -implicitDefEqProofs -dsimp (maxSteps := 2000000) [turn, hj_cell, hj_text, hj_due, hf_k, hj_k, and_assoc, e1, q0, s0, s1, ls, c0, c1, c2, q1, q2, r1, r2, e0, hne]
              rw [bl_some (lc0 (List.range 0) (fun (k : Nat) => D.int (k : Int)) (fun _ => true) (fun k => D.bl (decide ((k : Int) = 4))) ?_ ?_ ?_ ?_)]
              rotate_left
              · simp -implicitDefEqProofs -dsimp (maxSteps := 2000000) [e0, e00, hne, rng1 (j := 0) (m := 0)]
              · simp -implicitDefEqProofs -dsimp (maxSteps := 2000000) [turn, hj_cell, hj_text, hj_due, hf_k, hj_k, and_assoc]
              · decide
              · intro d _
                simp -implicitDefEqProofs -dsimp (maxSteps := 2000000) [wipeE]
              rw [show (((List.range 0).filter fun _ => true).map fun (k : Nat) => D.bl (decide ((k : Int) = 4))) = ([] : List D) from rfl]
              simp -implicitDefEqProofs -dsimp (maxSteps := 2000000) [turn, hj_cell, hj_text, hj_due, hf_k, hj_k, and_assoc, e1, q0, s0, s1, ls, c0, c1, c2, q1, q2, r1, r2, r3, q4, e0, e00, hne]
            · rw [if_neg hg] at r1 r2 r3
              simp -implicitDefEqProofs -dsimp (maxSteps := 2000000) [turn, hj_cell, hj_text, hj_due, hf_k, hj_k, and_assoc, e1, q0, s0, s1, ls, c0, c1, c2, q1, q2, r1, r2, e0, e00]
              have hne := trivial
              rw [bl_some (lc0 (List.range 9) (fun (k : Nat) => D.int (k : Int)) (fun _ => true) (fun k => D.bl (decide ((k : Int) = 4))) ?_ ?_ ?_ ?_)]
              rotate_left
              · simp -implicitDefEqProofs -dsimp (maxSteps := 2000000) [e0, e00, hne, rng1 (j := 9) (m := 9)]
              · simp -implicitDefEqProofs -dsimp (maxSteps := 2000000) [turn, hj_cell, hj_text, hj_due, hf_k, hj_k, and_assoc]
              · decide
              · intro d _
                simp -implicitDefEqProofs -dsimp (maxSteps := 2000000) [wipeE]
              rw [show (((List.range 9).filter fun _ => true).map fun (k : Nat) => D.bl (decide ((k : Int) = 4))) = (flagL 9 4).map D.bl from rfl]
              simp -implicitDefEqProofs -dsimp (maxSteps := 2000000) [turn, hj_cell, hj_text, hj_due, hf_k, hj_k, and_assoc, e1, q0, s0, s1, ls, c0, c1, c2, q1, q2, r1, r2, r3, e0, e00, eqD_bls]
      · have ls := trivial
        have hA := hA0
        have hl : T.length ≤ 6400 := by omega
        by_cases c1 : 0 < stir cell 301 % 4
        · obtain ⟨T, q1, hA, hl1⟩ := law_spoilt_ok (n := n + 9) (c := cell) (k := 302) (cs := cs) (by decide) hA (by omega)
          have hl : T.length ≤ 40000 := by omega
          by_cases c2 : stir cell 301 % 2 = 1
          · obtain ⟨T, q2, hA, hl2⟩ := law_spoilt_ok (n := n + 9) (c := cell) (k := 306) (cs := cs) (by decide) hA (by omega)
            have hl : T.length ≤ 200000 := by omega
            have hc := wrds_count (t := T)
            have r1 := law_textdue_ok (n := n + 10) (cs := cs) hA (by omega) (by omega)
            have r2 := law_refused_ok (n := n + 7) (cs := cs) hA (by omega) (by omega)
            have r3 := read_row_any (n := n + 8) (cs := cs) hA (by omega) (by omega)
            by_cases hg : ∀ w ∈ wrds T, NumOk w
            · rw [if_pos hg] at r1 r2 r3
              have r3' : (wrds T).map (fun w => D.int (numV w)) = ((wrds T).map numV).map D.int := by rw [List.map_map]; rfl
              rw [r3'] at r3
              have hne : (wrds T).map numV ≠ [] := fun e => wrds_ne (List.map_eq_nil_iff.mp e)
              have q4 := SameAt.lst (n := n + 10) (fun a b => SameAt.int (n := n + 9) (a := a) (b := b)) (la := (wrds T).map numV) (lb := (wrds T).map numV) (by rw [List.length_map]; omega) .sh .lk cs (by decide) (by decide)
              rw [decide_eq_true rfl] at q4
              generalize (wrds T).map numV = R at *
              simp -implicitDefEqProofs -dsimp (maxSteps := 2000000) [turn, hj_cell, hj_text, hj_due, hf_k, hj_k, and_assoc, e1, q0, s0, s1, ls, c0, c1, c2, q1, q2, r1, r2, e0, hne]
              rw [bl_some (lc0 (List.range 0) (fun (k : Nat) => D.int (k : Int)) (fun _ => true) (fun k => D.bl (decide ((k : Int) = 4))) ?_ ?_ ?_ ?_)]
              rotate_left
              · simp -implicitDefEqProofs -dsimp (maxSteps := 2000000) [e0, e00, hne, rng1 (j := 0) (m := 0)]
              · simp -implicitDefEqProofs -dsimp (maxSteps := 2000000) [turn, hj_cell, hj_text, hj_due, hf_k, hj_k, and_assoc]
              · decide
              · intro d _
                simp -implicitDefEqProofs -dsimp (maxSteps := 2000000) [wipeE]
              rw [show (((List.range 0).filter fun _ => true).map fun (k : Nat) => D.bl (decide ((k : Int) = 4))) = ([] : List D) from rfl]
              simp -implicitDefEqProofs -dsimp (maxSteps := 2000000) [turn, hj_cell, hj_text, hj_due, hf_k, hj_k, and_assoc, e1, q0, s0, s1, ls, c0, c1, c2, q1, q2, r1, r2, r3, q4, e0, e00, hne]
            · rw [if_neg hg] at r1 r2 r3
              simp -implicitDefEqProofs -dsimp (maxSteps := 2000000) [turn, hj_cell, hj_text, hj_due, hf_k, hj_k, and_assoc, e1, q0, s0, s1, ls, c0, c1, c2, q1, q2, r1, r2, e0, e00]
              have hne := trivial
              rw [bl_some (lc0 (List.range 9) (fun (k : Nat) => D.int (k : Int)) (fun _ => true) (fun k => D.bl (decide ((k : Int) = 4))) ?_ ?_ ?_ ?_)]
              rotate_left
              · simp -implicitDefEqProofs -dsimp (maxSteps := 2000000) [e0, e00, hne, rng1 (j := 9) (m := 9)]
              · simp -implicitDefEqProofs -dsimp (maxSteps := 2000000) [turn, hj_cell, hj_text, hj_due, hf_k, hj_k, and_assoc]
              · decide
              · intro d _
                simp -implicitDefEqProofs -dsimp (maxSteps := 2000000) [wipeE]
              rw [show (((List.range 9).filter fun _ => true).map fun (k : Nat) => D.bl (decide ((k : Int) = 4))) = (flagL 9 4).map D.bl from rfl]
              simp -implicitDefEqProofs -dsimp (maxSteps := 2000000) [turn, hj_cell, hj_text, hj_due, hf_k, hj_k, and_assoc, e1, q0, s0, s1, ls, c0, c1, c2, q1, q2, r1, r2, r3, e0, e00, eqD_bls]
          · have q2 := trivial
            have hl : T.length ≤ 200000 := by omega
            have hc := wrds_count (t := T)
            have r1 := law_textdue_ok (n := n + 10) (cs := cs) hA (by omega) (by omega)
            have r2 := law_refused_ok (n := n + 7) (cs := cs) hA (by omega) (by omega)
            have r3 := read_row_any (n := n + 8) (cs := cs) hA (by omega) (by omega)
            by_cases hg : ∀ w ∈ wrds T, NumOk w
            · rw [if_pos hg] at r1 r2 r3
              have r3' : (wrds T).map (fun w => D.int (numV w)) = ((wrds T).map numV).map D.int := by rw [List.map_map]; rfl
              rw [r3'] at r3
              have hne : (wrds T).map numV ≠ [] := fun e => wrds_ne (List.map_eq_nil_iff.mp e)
              have q4 := SameAt.lst (n := n + 10) (fun a b => SameAt.int (n := n + 9) (a := a) (b := b)) (la := (wrds T).map numV) (lb := (wrds T).map numV) (by rw [List.length_map]; omega) .sh .lk cs (by decide) (by decide)
              rw [decide_eq_true rfl] at q4
              generalize (wrds T).map numV = R at *
              simp -implicitDefEqProofs -dsimp (maxSteps := 2000000) [turn, hj_cell, hj_text, hj_due, hf_k, hj_k, and_assoc, e1, q0, s0, s1, ls, c0, c1, c2, q1, q2, r1, r2, e0, hne]
              rw [bl_some (lc0 (List.range 0) (fun (k : Nat) => D.int (k : Int)) (fun _ => true) (fun k => D.bl (decide ((k : Int) = 4))) ?_ ?_ ?_ ?_)]
              rotate_left
              · simp -implicitDefEqProofs -dsimp (maxSteps := 2000000) [e0, e00, hne, rng1 (j := 0) (m := 0)]
              · simp -implicitDefEqProofs -dsimp (maxSteps := 2000000) [turn, hj_cell, hj_text, hj_due, hf_k, hj_k, and_assoc]
              · decide
              · intro d _
                simp -implicitDefEqProofs -dsimp (maxSteps := 2000000) [wipeE]
              rw [show (((List.range 0).filter fun _ => true).map fun (k : Nat) => D.bl (decide ((k : Int) = 4))) = ([] : List D) from rfl]
              simp -implicitDefEqProofs -dsimp (maxSteps := 2000000) [turn, hj_cell, hj_text, hj_due, hf_k, hj_k, and_assoc, e1, q0, s0, s1, ls, c0, c1, c2, q1, q2, r1, r2, r3, q4, e0, e00, hne]
            · rw [if_neg hg] at r1 r2 r3
              simp -implicitDefEqProofs -dsimp (maxSteps := 2000000) [turn, hj_cell, hj_text, hj_due, hf_k, hj_k, and_assoc, e1, q0, s0, s1, ls, c0, c1, c2, q1, q2, r1, r2, e0, e00]
              have hne := trivial
              rw [bl_some (lc0 (List.range 9) (fun (k : Nat) => D.int (k : Int)) (fun _ => true) (fun k => D.bl (decide ((k : Int) = 4))) ?_ ?_ ?_ ?_)]
              rotate_left
              · simp -implicitDefEqProofs -dsimp (maxSteps := 2000000) [e0, e00, hne, rng1 (j := 9) (m := 9)]
              · simp -implicitDefEqProofs -dsimp (maxSteps := 2000000) [turn, hj_cell, hj_text, hj_due, hf_k, hj_k, and_assoc]
              · decide
              · intro d _
                simp -implicitDefEqProofs -dsimp (maxSteps := 2000000) [wipeE]
              rw [show (((List.range 9).filter fun _ => true).map fun (k : Nat) => D.bl (decide ((k : Int) = 4))) = (flagL 9 4).map D.bl from rfl]
              simp -implicitDefEqProofs -dsimp (maxSteps := 2000000) [turn, hj_cell, hj_text, hj_due, hf_k, hj_k, and_assoc, e1, q0, s0, s1, ls, c0, c1, c2, q1, q2, r1, r2, r3, e0, e00, eqD_bls]
        · have q1 := trivial
          have hl : T.length ≤ 40000 := by omega
          by_cases c2 : stir cell 301 % 2 = 1
          · obtain ⟨T, q2, hA, hl2⟩ := law_spoilt_ok (n := n + 9) (c := cell) (k := 306) (cs := cs) (by decide) hA (by omega)
            have hl : T.length ≤ 200000 := by omega
            have hc := wrds_count (t := T)
            have r1 := law_textdue_ok (n := n + 10) (cs := cs) hA (by omega) (by omega)
            have r2 := law_refused_ok (n := n + 7) (cs := cs) hA (by omega) (by omega)
            have r3 := read_row_any (n := n + 8) (cs := cs) hA (by omega) (by omega)
            by_cases hg : ∀ w ∈ wrds T, NumOk w
            · rw [if_pos hg] at r1 r2 r3
              have r3' : (wrds T).map (fun w => D.int (numV w)) = ((wrds T).map numV).map D.int := by rw [List.map_map]; rfl
              rw [r3'] at r3
              have hne : (wrds T).map numV ≠ [] := fun e => wrds_ne (List.map_eq_nil_iff.mp e)
              have q4 := SameAt.lst (n := n + 10) (fun a b => SameAt.int (n := n + 9) (a := a) (b := b)) (la := (wrds T).map numV) (lb := (wrds T).map numV) (by rw [List.length_map]; omega) .sh .lk cs (by decide) (by decide)
              rw [decide_eq_true rfl] at q4
              generalize (wrds T).map numV = R at *
              simp -implicitDefEqProofs -dsimp (maxSteps := 2000000) [turn, hj_cell, hj_text, hj_due, hf_k, hj_k, and_assoc, e1, q0, s0, s1, ls, c0, c1, c2, q1, q2, r1, r2, e0, hne]
              rw [bl_some (lc0 (List.range 0) (fun (k : Nat) => D.int (k : Int)) (fun _ => true) (fun k => D.bl (decide ((k : Int) = 4))) ?_ ?_ ?_ ?_)]
              rotate_left
              · simp -implicitDefEqProofs -dsimp (maxSteps := 2000000) [e0, e00, hne, rng1 (j := 0) (m := 0)]
              · simp -implicitDefEqProofs -dsimp (maxSteps := 2000000) [turn, hj_cell, hj_text, hj_due, hf_k, hj_k, and_assoc]
              · decide
              · intro d _
                simp -implicitDefEqProofs -dsimp (maxSteps := 2000000) [wipeE]
              rw [show (((List.range 0).filter fun _ => true).map fun (k : Nat) => D.bl (decide ((k : Int) = 4))) = ([] : List D) from rfl]
              simp -implicitDefEqProofs -dsimp (maxSteps := 2000000) [turn, hj_cell, hj_text, hj_due, hf_k, hj_k, and_assoc, e1, q0, s0, s1, ls, c0, c1, c2, q1, q2, r1, r2, r3, q4, e0, e00, hne]
            · rw [if_neg hg] at r1 r2 r3
              simp -implicitDefEqProofs -dsimp (maxSteps := 2000000) [turn, hj_cell, hj_text, hj_due, hf_k, hj_k, and_assoc, e1, q0, s0, s1, ls, c0, c1, c2, q1, q2, r1, r2, e0, e00]
              have hne := trivial
              rw [bl_some (lc0 (List.range 9) (fun (k : Nat) => D.int (k : Int)) (fun _ => true) (fun k => D.bl (decide ((k : Int) = 4))) ?_ ?_ ?_ ?_)]
              rotate_left
              · simp -implicitDefEqProofs -dsimp (maxSteps := 2000000) [e0, e00, hne, rng1 (j := 9) (m := 9)]
              · simp -implicitDefEqProofs -dsimp (maxSteps := 2000000) [turn, hj_cell, hj_text, hj_due, hf_k, hj_k, and_assoc]
              · decide
              · intro d _
                simp -implicitDefEqProofs -dsimp (maxSteps := 2000000) [wipeE]
              rw [show (((List.range 9).filter fun _ => true).map fun (k : Nat) => D.bl (decide ((k : Int) = 4))) = (flagL 9 4).map D.bl from rfl]
              simp -implicitDefEqProofs -dsimp (maxSteps := 2000000) [turn, hj_cell, hj_text, hj_due, hf_k, hj_k, and_assoc, e1, q0, s0, s1, ls, c0, c1, c2, q1, q2, r1, r2, r3, e0, e00, eqD_bls]
          · have q2 := trivial
            have hl : T.length ≤ 200000 := by omega
            have hc := wrds_count (t := T)
            have r1 := law_textdue_ok (n := n + 10) (cs := cs) hA (by omega) (by omega)
            have r2 := law_refused_ok (n := n + 7) (cs := cs) hA (by omega) (by omega)
            have r3 := read_row_any (n := n + 8) (cs := cs) hA (by omega) (by omega)
            by_cases hg : ∀ w ∈ wrds T, NumOk w
            · rw [if_pos hg] at r1 r2 r3
              have r3' : (wrds T).map (fun w => D.int (numV w)) = ((wrds T).map numV).map D.int := by rw [List.map_map]; rfl
              rw [r3'] at r3
              have hne : (wrds T).map numV ≠ [] := fun e => wrds_ne (List.map_eq_nil_iff.mp e)
              have q4 := SameAt.lst (n := n + 10) (fun a b => SameAt.int (n := n + 9) (a := a) (b := b)) (la := (wrds T).map numV) (lb := (wrds T).map numV) (by rw [List.length_map]; omega) .sh .lk cs (by decide) (by decide)
              rw [decide_eq_true rfl] at q4
              generalize (wrds T).map numV = R at *
              simp -implicitDefEqProofs -dsimp (maxSteps := 2000000) [turn, hj_cell, hj_text, hj_due, hf_k, hj_k, and_assoc, e1, q0, s0, s1, ls, c0, c1, c2, q1, q2, r1, r2, e0, hne]
              rw [bl_some (lc0 (List.range 0) (fun (k : Nat) => D.int (k : Int)) (fun _ => true) (fun k => D.bl (decide ((k : Int) = 4))) ?_ ?_ ?_ ?_)]
              rotate_left
              · simp -implicitDefEqProofs -dsimp (maxSteps := 2000000) [e0, e00, hne, rng1 (j := 0) (m := 0)]
              · simp -implicitDefEqProofs -dsimp (maxSteps := 2000000) [turn, hj_cell, hj_text, hj_due, hf_k, hj_k, and_assoc]
              · decide
              · intro d _
                simp -implicitDefEqProofs -dsimp (maxSteps := 2000000) [wipeE]
              rw [show (((List.range 0).filter fun _ => true).map fun (k : Nat) => D.bl (decide ((k : Int) = 4))) = ([] : List D) from rfl]
              simp -implicitDefEqProofs -dsimp (maxSteps := 2000000) [turn, hj_cell, hj_text, hj_due, hf_k, hj_k, and_assoc, e1, q0, s0, s1, ls, c0, c1, c2, q1, q2, r1, r2, r3, q4, e0, e00, hne]
            · rw [if_neg hg] at r1 r2 r3
              simp -implicitDefEqProofs -dsimp (maxSteps := 2000000) [turn, hj_cell, hj_text, hj_due, hf_k, hj_k, and_assoc, e1, q0, s0, s1, ls, c0, c1, c2, q1, q2, r1, r2, e0, e00]
              have hne := trivial
              rw [bl_some (lc0 (List.range 9) (fun (k : Nat) => D.int (k : Int)) (fun _ => true) (fun k => D.bl (decide ((k : Int) = 4))) ?_ ?_ ?_ ?_)]
              rotate_left
              · simp -implicitDefEqProofs -dsimp (maxSteps := 2000000) [e0, e00, hne, rng1 (j := 9) (m := 9)]
              · simp -implicitDefEqProofs -dsimp (maxSteps := 2000000) [turn, hj_cell, hj_text, hj_due, hf_k, hj_k, and_assoc]
              · decide
              · intro d _
                simp -implicitDefEqProofs -dsimp (maxSteps := 2000000) [wipeE]
              rw [show (((List.range 9).filter fun _ => true).map fun (k : Nat) => D.bl (decide ((k : Int) = 4))) = (flagL 9 4).map D.bl from rfl]
              simp -implicitDefEqProofs -dsimp (maxSteps := 2000000) [turn, hj_cell, hj_text, hj_due, hf_k, hj_k, and_assoc, e1, q0, s0, s1, ls, c0, c1, c2, q1, q2, r1, r2, r3, e0, e00, eqD_bls])
    have hj_k := fre_locked hf_k
    simp -implicitDefEqProofs -dsimp (maxSteps := 2000000) []
def lawK : Nat := 30
theorem law_true : ∀ ns : List Int, ns.length ≤ 63 → (∀ z ∈ ns, Builtin.Int.intBits z ≤ 1048576) → ∃ c, callD tbl lawK "law" [⟨.sh, .fl (ns.map D.int)⟩] [] = some (.ok false (.bl true) c) := fun ns _ _ => law_ok (n := 18)
end PV
namespace PV
open PySem PySem.Spec PyProof.Rows L2
def topS (i : Nat) : Stmt := PySem.Challenge.pw_topstretch_k39_texts_of_no_row.main.body.getD i (.Pass ⟨0, 0, 0, 0⟩)
def fns : List (Str × Bool) := [(("figures_of" : Str), false), (("number_told" : Str), false), (("read_row" : Str), false), (("_law_stir" : Str), false), (("_law_row" : Str), false), (("_law_same" : Str), false), (("_law_text" : Str), false), (("_law_refused" : Str), false), (("_law_due" : Str), false), (("_law_spoilt" : Str), false), (("law" : Str), false)]
def con : List (Str × D) := [("FIGURES", .str "0123456789"), ("MOST_FIGURES", .int 30)]
def exc : Exq := ⟨["TopError", "NoStretch", "NoLength", "NoCount", "NoPlace", "NoText", "NoShape", "NoneYet", "NoRound"], [("NoText", [("NoStretch", false), ("NoLength", false), ("NoCount", false), ("NoPlace", false), ("NoText", true), ("NoShape", false), ("NoneYet", false), ("NoRound", false), ("ValueError", true)])], "TopError", []⟩
abbrev s_figures_of : Stmt := topS 13
theorem sc_figures_of : FnScope ["word"] ["word"] (defScope s_figures_of) := ⟨rfl, rfl, rfl, by decide +kernel, rfl, by decide +kernel, by decide +kernel⟩
theorem cc_figures_of : cSs (cS ⟨["word"], (defScope s_figures_of).names, fns, con, exc, 0⟩ 40 40) (defBody s_figures_of) = some c_figures_of.body := by kernel_rfl
abbrev s_number_told : Stmt := topS 14
theorem sc_number_told : FnScope ["word", "figures", "sign"] ["word"] (defScope s_number_told) := ⟨rfl, rfl, rfl, by decide +kernel, rfl, by decide +kernel, by decide +kernel⟩
theorem cc_number_told : cSs (cS ⟨["word", "figures", "sign"], (defScope s_number_told).names, fns, con, exc, 0⟩ 40 40) (defBody s_number_told) = some c_number_told.body := by kernel_rfl
abbrev s_read_row : Stmt := topS 15
theorem sc_read_row : FnScope ["text", "word"] ["text"] (defScope s_read_row) := ⟨rfl, rfl, rfl, by decide +kernel, rfl, by decide +kernel, by decide +kernel⟩
theorem cc_read_row : cSs (cS ⟨["text", "word"], (defScope s_read_row).names, fns, con, exc, 3⟩ 40 40) (defBody s_read_row) = some c_read_row.body := by kernel_rfl
abbrev s_law_stir : Stmt := topS 17
theorem sc_law_stir : FnScope ["cell", "k", "number"] ["cell", "k"] (defScope s_law_stir) := ⟨rfl, rfl, rfl, by decide +kernel, rfl, by decide +kernel, by decide +kernel⟩
theorem cc_law_stir : cSs (cS ⟨["cell", "k", "number"], (defScope s_law_stir).names, fns, con, exc, 0⟩ 40 40) (defBody s_law_stir) = some c_law_stir.body := by kernel_rfl
abbrev s_law_row : Stmt := topS 18
theorem sc_law_row : FnScope ["cell", "most", "number", "size", "way", "wide", "found", "k", "one"] ["cell", "most"] (defScope s_law_row) := ⟨rfl, rfl, rfl, by decide +kernel, rfl, by decide +kernel, by decide +kernel⟩
theorem cc_law_row : cSs (cS ⟨["cell", "most", "number", "size", "way", "wide", "found", "k", "one"], (defScope s_law_row).names, fns, con, exc, 0⟩ 40 40) (defBody s_law_row) = some c_law_row.body := by kernel_rfl
abbrev s_law_same : Stmt := topS 19
theorem sc_law_same : FnScope ["found", "due", "one", "other"] ["found", "due"] (defScope s_law_same) := ⟨rfl, rfl, rfl, by decide +kernel, rfl, by decide +kernel, by decide +kernel⟩
theorem cc_law_same : cSs (cS ⟨["found", "due", "one", "other"], (defScope s_law_same).names, fns, con, exc, 0⟩ 40 40) (defBody s_law_same) = some c_law_same.body := by kernel_rfl
abbrev s_law_text : Stmt := topS 20
theorem sc_law_text : FnScope ["row", "number"] ["row"] (defScope s_law_text) := ⟨rfl, rfl, rfl, by decide +kernel, rfl, by decide +kernel, by decide +kernel⟩
theorem cc_law_text : cSs (cS ⟨["row", "number"], (defScope s_law_text).names, fns, con, exc, 0⟩ 40 40) (defBody s_law_text) = some c_law_text.body := by kernel_rfl
abbrev s_law_refused : Stmt := topS 21
theorem sc_law_refused : FnScope ["text", "found", "e"] ["text"] (defScope s_law_refused) := ⟨rfl, rfl, rfl, by decide +kernel, rfl, by decide +kernel, by decide +kernel⟩
theorem cc_law_refused : cSs (cS ⟨["text", "found", "e"], (defScope s_law_refused).names, fns, con, exc, 0⟩ 40 40) (defBody s_law_refused) = some c_law_refused.body := by kernel_rfl
abbrev s_law_due : Stmt := topS 22
theorem sc_law_due : FnScope ["text", "found", "word", "figures", "sign"] ["text"] (defScope s_law_due) := ⟨rfl, rfl, rfl, by decide +kernel, rfl, by decide +kernel, by decide +kernel⟩
theorem cc_law_due : cSs (cS ⟨["text", "found", "word", "figures", "sign"], (defScope s_law_due).names, fns, con, exc, 0⟩ 40 40) (defBody s_law_due) = some c_law_due.body := by kernel_rfl
abbrev s_law_spoilt : Stmt := topS 23
theorem sc_law_spoilt : FnScope ["cell", "k", "text", "number", "kind", "at", "sign", "some", "word", "between"] ["cell", "k", "text"] (defScope s_law_spoilt) := ⟨rfl, rfl, rfl, by decide +kernel, rfl, by decide +kernel, by decide +kernel⟩
theorem cc_law_spoilt : cSs (cS ⟨["cell", "k", "text", "number", "kind", "at", "sign", "some", "word", "between"], (defScope s_law_spoilt).names, fns, con, exc, 0⟩ 40 40) (defBody s_law_spoilt) = some c_law_spoilt.body := by kernel_rfl
abbrev s_law : Stmt := topS 24
theorem sc_law : FnScope ["script", "cells", "cell", "text", "due", "k"] ["script"] (defScope s_law) := ⟨rfl, rfl, rfl, by decide +kernel, rfl, by decide +kernel, by decide +kernel⟩
theorem cc_law : cSs (cS ⟨["script", "cells", "cell", "text", "due", "k"], (defScope s_law).names, fns, con, exc, 0⟩ 40 40) (defBody s_law) = some c_law.body := by kernel_rfl
section
variable {K : PySem.W.Frag} {mg : Str → Option Value}
theorem da_mk {st : Stmt} {f : Addr} {oc : Value} {od an : Option Addr} {osl : Array (Option Value)} {kV doc pm cdv ct : Value} {x g : Str} {N ps : List Str} {cel : Nat} {G : Fn} {h : Heap} (X : K.In h) (Gn : h.Ns mainGlobals mg)
    (a : PySem.W.nsIn K mainGlobals x = some (some (.ref f))) (l : K.lookup f = some ⟨oc, od, .func (PySem.W.fnOf g g (defArgs st) (defBody st) (defScope st) .none kV doc pm an cdv ct), osl⟩) (c : PySem.W.codeIn K cdv g = true) (k : PySem.W.keepIn K (.ref f) = true)
    (S : FnScope N ps (defScope st)) (hT : tbl x = some G) (hnp : G.np = ps.length) (hnl : G.nl = N.length) (hc : cSs (cS ⟨N, (defScope st).names, fns, con, exc, cel⟩ 40 40) (defBody st) = some G.body)
    (hd : ∀ y, y ∈ N → (y == ("__debug__" : Str)) = false ∧ (y == ("__classdict__" : Str)) = false) (dbg : (x == ("__debug__" : Str)) = false)
    (hb : ∀ (us : List Value), us.length = ps.length → bindArgs (PySem.W.fnOf g g (defArgs st) (defBody st) (defScope st) .none kV doc pm an cdv ct) ⟨us, []⟩ = pure (ps.zip us)) : ∃ a fd ps, DefAt K mg tbl fns con exc x a fd ps :=
  ⟨f, _, ps, ⟨⟨g, st, N, cel, 40, 40, G, fun_mk l c k, S, hT, hnp, hnl, hc, hd⟩, .all hb, PySem.W.mg_of X Gn a, k, dbg⟩⟩
end
def clsOf (l : List (Str × Addr)) : Str → Value := fun x => match l.lookup x with
  | some a => .ref a
  | none => .none
theorem lk_nil {α : Type} {Q : Str → Prop} : ∀ f b, ([] : List (Str × α)).lookup f = some b → Q f := fun f b h => by cases h
theorem lk_cons {α : Type} {Q : Str → Prop} {x : Str} {c : α} {r : List (Str × α)} (h : Q x) (hr : ∀ f b, r.lookup f = some b → Q f) : ∀ f b, ((x, c) :: r).lookup f = some b → Q f := fun f b e => by
  rw [List.lookup_cons] at e
  cases hx : f == x with
  | true =>
    rw [eq_of_beq hx]
    exact h
  | false =>
    rw [hx] at e
    exact hr f b e
theorem lk2_nil {α : Type} {Q : Str → α → Prop} : ∀ f b, ([] : List (Str × α)).lookup f = some b → Q f b := fun f b h => by cases h
theorem lk2_cons {α : Type} {Q : Str → α → Prop} {x : Str} {c : α} {r : List (Str × α)} (h : Q x c) (hr : ∀ f b, r.lookup f = some b → Q f b) : ∀ f b, ((x, c) :: r).lookup f = some b → Q f b := fun f b e => by
  rw [List.lookup_cons] at e
  cases hx : f == x with
  | true =>
    rw [hx] at e
    cases e
    rw [eq_of_beq hx]
    exact h
  | false =>
    rw [hx] at e
    exact hr f b e
theorem mem_nil {Q : Str → Prop} : ∀ x, x ∈ ([] : List Str) → Q x := fun x h => by cases h
theorem mem_cons {Q : Str → Prop} {a : Str} {l : List Str} (h : Q a) (hr : ∀ x, x ∈ l → Q x) : ∀ x, x ∈ a :: l → Q x := fun x e => by
  rcases List.mem_cons.mp e with rfl | e
  · exact h
  · exact hr x e
theorem all_mk {l : PySem.W.OpenLaw} {w : World} {K : PySem.W.Frag} {h : Heap} {mg : Str → Option Value} {fa : Addr} (X : K.In h) (G : h.Ns mainGlobals mg) (hfa : mg "law" = some (.ref fa)) (k : Nat)
    (hl : ∀ ns : List Int, ns.length ≤ 63 → (∀ z ∈ ns, Builtin.Int.intBits z ≤ 1048576) → ∃ c, callD tbl k "law" [⟨.sh, .fl (ns.map D.int)⟩] [] = some (.ok false (.bl true) c))
    {f_figures_of : Addr} {od_figures_of an_figures_of : Option Addr} {sl_figures_of : Array (Option Value)} {oc_figures_of kV_figures_of dc_figures_of pm_figures_of cd_figures_of ct_figures_of : Value}
    {f_number_told : Addr} {od_number_told an_number_told : Option Addr} {sl_number_told : Array (Option Value)} {oc_number_told kV_number_told dc_number_told pm_number_told cd_number_told ct_number_told : Value}
    {f_read_row : Addr} {od_read_row an_read_row : Option Addr} {sl_read_row : Array (Option Value)} {oc_read_row kV_read_row dc_read_row pm_read_row cd_read_row ct_read_row : Value}
    {f_law_stir : Addr} {od_law_stir an_law_stir : Option Addr} {sl_law_stir : Array (Option Value)} {oc_law_stir kV_law_stir dc_law_stir pm_law_stir cd_law_stir ct_law_stir : Value}
    {f_law_row : Addr} {od_law_row an_law_row : Option Addr} {sl_law_row : Array (Option Value)} {oc_law_row kV_law_row dc_law_row pm_law_row cd_law_row ct_law_row : Value}
    {f_law_same : Addr} {od_law_same an_law_same : Option Addr} {sl_law_same : Array (Option Value)} {oc_law_same kV_law_same dc_law_same pm_law_same cd_law_same ct_law_same : Value}
    {f_law_text : Addr} {od_law_text an_law_text : Option Addr} {sl_law_text : Array (Option Value)} {oc_law_text kV_law_text dc_law_text pm_law_text cd_law_text ct_law_text : Value}
    {f_law_refused : Addr} {od_law_refused an_law_refused : Option Addr} {sl_law_refused : Array (Option Value)} {oc_law_refused kV_law_refused dc_law_refused pm_law_refused cd_law_refused ct_law_refused : Value}
    {f_law_due : Addr} {od_law_due an_law_due : Option Addr} {sl_law_due : Array (Option Value)} {oc_law_due kV_law_due dc_law_due pm_law_due cd_law_due ct_law_due : Value}
    {f_law_spoilt : Addr} {od_law_spoilt an_law_spoilt : Option Addr} {sl_law_spoilt : Array (Option Value)} {oc_law_spoilt kV_law_spoilt dc_law_spoilt pm_law_spoilt cd_law_spoilt ct_law_spoilt : Value}
    {f_law : Addr} {od_law an_law : Option Addr} {sl_law : Array (Option Value)} {oc_law kV_law dc_law pm_law cd_law ct_law : Value}
    {e_TopError : Addr}
    {e_NoStretch : Addr}
    {e_NoLength : Addr}
    {e_NoCount : Addr}
    {e_NoPlace : Addr}
    {e_NoText : Addr}
    {e_NoShape : Addr}
    {e_NoneYet : Addr}
    {e_NoRound : Addr}
    {tk_FIGURES : Tok}
    {tk_MOST_FIGURES : Tok}
    (a_figures_of : PySem.W.nsIn K mainGlobals "figures_of" = some (some (.ref f_figures_of))) (l_figures_of : K.lookup f_figures_of = some ⟨oc_figures_of, od_figures_of, .func (PySem.W.fnOf "figures_of" "figures_of" (defArgs s_figures_of) (defBody s_figures_of) (defScope s_figures_of) .none kV_figures_of dc_figures_of pm_figures_of an_figures_of cd_figures_of ct_figures_of), sl_figures_of⟩) (c_figures_of : PySem.W.codeIn K cd_figures_of "figures_of" = true) (k_figures_of : PySem.W.keepIn K (.ref f_figures_of) = true)
    (a_number_told : PySem.W.nsIn K mainGlobals "number_told" = some (some (.ref f_number_told))) (l_number_told : K.lookup f_number_told = some ⟨oc_number_told, od_number_told, .func (PySem.W.fnOf "number_told" "number_told" (defArgs s_number_told) (defBody s_number_told) (defScope s_number_told) .none kV_number_told dc_number_told pm_number_told an_number_told cd_number_told ct_number_told), sl_number_told⟩) (c_number_told : PySem.W.codeIn K cd_number_told "number_told" = true) (k_number_told : PySem.W.keepIn K (.ref f_number_told) = true)
    (a_read_row : PySem.W.nsIn K mainGlobals "read_row" = some (some (.ref f_read_row))) (l_read_row : K.lookup f_read_row = some ⟨oc_read_row, od_read_row, .func (PySem.W.fnOf "read_row" "read_row" (defArgs s_read_row) (defBody s_read_row) (defScope s_read_row) .none kV_read_row dc_read_row pm_read_row an_read_row cd_read_row ct_read_row), sl_read_row⟩) (c_read_row : PySem.W.codeIn K cd_read_row "read_row" = true) (k_read_row : PySem.W.keepIn K (.ref f_read_row) = true)
    (a_law_stir : PySem.W.nsIn K mainGlobals "_law_stir" = some (some (.ref f_law_stir))) (l_law_stir : K.lookup f_law_stir = some ⟨oc_law_stir, od_law_stir, .func (PySem.W.fnOf "_law_stir" "_law_stir" (defArgs s_law_stir) (defBody s_law_stir) (defScope s_law_stir) .none kV_law_stir dc_law_stir pm_law_stir an_law_stir cd_law_stir ct_law_stir), sl_law_stir⟩) (c_law_stir : PySem.W.codeIn K cd_law_stir "_law_stir" = true) (k_law_stir : PySem.W.keepIn K (.ref f_law_stir) = true)
    (a_law_row : PySem.W.nsIn K mainGlobals "_law_row" = some (some (.ref f_law_row))) (l_law_row : K.lookup f_law_row = some ⟨oc_law_row, od_law_row, .func (PySem.W.fnOf "_law_row" "_law_row" (defArgs s_law_row) (defBody s_law_row) (defScope s_law_row) .none kV_law_row dc_law_row pm_law_row an_law_row cd_law_row ct_law_row), sl_law_row⟩) (c_law_row : PySem.W.codeIn K cd_law_row "_law_row" = true) (k_law_row : PySem.W.keepIn K (.ref f_law_row) = true)
    (a_law_same : PySem.W.nsIn K mainGlobals "_law_same" = some (some (.ref f_law_same))) (l_law_same : K.lookup f_law_same = some ⟨oc_law_same, od_law_same, .func (PySem.W.fnOf "_law_same" "_law_same" (defArgs s_law_same) (defBody s_law_same) (defScope s_law_same) .none kV_law_same dc_law_same pm_law_same an_law_same cd_law_same ct_law_same), sl_law_same⟩) (c_law_same : PySem.W.codeIn K cd_law_same "_law_same" = true) (k_law_same : PySem.W.keepIn K (.ref f_law_same) = true)
    (a_law_text : PySem.W.nsIn K mainGlobals "_law_text" = some (some (.ref f_law_text))) (l_law_text : K.lookup f_law_text = some ⟨oc_law_text, od_law_text, .func (PySem.W.fnOf "_law_text" "_law_text" (defArgs s_law_text) (defBody s_law_text) (defScope s_law_text) .none kV_law_text dc_law_text pm_law_text an_law_text cd_law_text ct_law_text), sl_law_text⟩) (c_law_text : PySem.W.codeIn K cd_law_text "_law_text" = true) (k_law_text : PySem.W.keepIn K (.ref f_law_text) = true)
    (a_law_refused : PySem.W.nsIn K mainGlobals "_law_refused" = some (some (.ref f_law_refused))) (l_law_refused : K.lookup f_law_refused = some ⟨oc_law_refused, od_law_refused, .func (PySem.W.fnOf "_law_refused" "_law_refused" (defArgs s_law_refused) (defBody s_law_refused) (defScope s_law_refused) .none kV_law_refused dc_law_refused pm_law_refused an_law_refused cd_law_refused ct_law_refused), sl_law_refused⟩) (c_law_refused : PySem.W.codeIn K cd_law_refused "_law_refused" = true) (k_law_refused : PySem.W.keepIn K (.ref f_law_refused) = true)
    (a_law_due : PySem.W.nsIn K mainGlobals "_law_due" = some (some (.ref f_law_due))) (l_law_due : K.lookup f_law_due = some ⟨oc_law_due, od_law_due, .func (PySem.W.fnOf "_law_due" "_law_due" (defArgs s_law_due) (defBody s_law_due) (defScope s_law_due) .none kV_law_due dc_law_due pm_law_due an_law_due cd_law_due ct_law_due), sl_law_due⟩) (c_law_due : PySem.W.codeIn K cd_law_due "_law_due" = true) (k_law_due : PySem.W.keepIn K (.ref f_law_due) = true)
    (a_law_spoilt : PySem.W.nsIn K mainGlobals "_law_spoilt" = some (some (.ref f_law_spoilt))) (l_law_spoilt : K.lookup f_law_spoilt = some ⟨oc_law_spoilt, od_law_spoilt, .func (PySem.W.fnOf "_law_spoilt" "_law_spoilt" (defArgs s_law_spoilt) (defBody s_law_spoilt) (defScope s_law_spoilt) .none kV_law_spoilt dc_law_spoilt pm_law_spoilt an_law_spoilt cd_law_spoilt ct_law_spoilt), sl_law_spoilt⟩) (c_law_spoilt : PySem.W.codeIn K cd_law_spoilt "_law_spoilt" = true) (k_law_spoilt : PySem.W.keepIn K (.ref f_law_spoilt) = true)
    (a_law : PySem.W.nsIn K mainGlobals "law" = some (some (.ref f_law))) (l_law : K.lookup f_law = some ⟨oc_law, od_law, .func (PySem.W.fnOf "law" "law" (defArgs s_law) (defBody s_law) (defScope s_law) .none kV_law dc_law pm_law an_law cd_law ct_law), sl_law⟩) (c_law : PySem.W.codeIn K cd_law "law" = true) (k_law : PySem.W.keepIn K (.ref f_law) = true)
    (ea_TopError : PySem.W.nsIn K mainGlobals "TopError" = some (some (.ref e_TopError))) (ek_TopError : PySem.W.keepIn K (.ref e_TopError) = true) (es_TopError : PySem.W.subIn K (.ref e_TopError) (.type "BaseException") = some true) (et_TopError : PySem.W.typeIn K (.ref e_TopError) = some (.type "type")) (ex_TopError : PySem.W.excIn K e_TopError [.type "ValueError", .type "Exception", .type "BaseException", .type "object"] "ValueError.__new__" = true)
    (ea_NoStretch : PySem.W.nsIn K mainGlobals "NoStretch" = some (some (.ref e_NoStretch))) (ek_NoStretch : PySem.W.keepIn K (.ref e_NoStretch) = true) (es_NoStretch : PySem.W.subIn K (.ref e_NoStretch) (.type "BaseException") = some true) (et_NoStretch : PySem.W.typeIn K (.ref e_NoStretch) = some (.type "type")) (ex_NoStretch : PySem.W.excIn K e_NoStretch [.type "ValueError", .type "Exception", .type "BaseException", .type "object"] "ValueError.__new__" = true)
    (ea_NoLength : PySem.W.nsIn K mainGlobals "NoLength" = some (some (.ref e_NoLength))) (ek_NoLength : PySem.W.keepIn K (.ref e_NoLength) = true) (es_NoLength : PySem.W.subIn K (.ref e_NoLength) (.type "BaseException") = some true) (et_NoLength : PySem.W.typeIn K (.ref e_NoLength) = some (.type "type")) (ex_NoLength : PySem.W.excIn K e_NoLength [.type "ValueError", .type "Exception", .type "BaseException", .type "object"] "ValueError.__new__" = true)
    (ea_NoCount : PySem.W.nsIn K mainGlobals "NoCount" = some (some (.ref e_NoCount))) (ek_NoCount : PySem.W.keepIn K (.ref e_NoCount) = true) (es_NoCount : PySem.W.subIn K (.ref e_NoCount) (.type "BaseException") = some true) (et_NoCount : PySem.W.typeIn K (.ref e_NoCount) = some (.type "type")) (ex_NoCount : PySem.W.excIn K e_NoCount [.type "ValueError", .type "Exception", .type "BaseException", .type "object"] "ValueError.__new__" = true)
    (ea_NoPlace : PySem.W.nsIn K mainGlobals "NoPlace" = some (some (.ref e_NoPlace))) (ek_NoPlace : PySem.W.keepIn K (.ref e_NoPlace) = true) (es_NoPlace : PySem.W.subIn K (.ref e_NoPlace) (.type "BaseException") = some true) (et_NoPlace : PySem.W.typeIn K (.ref e_NoPlace) = some (.type "type")) (ex_NoPlace : PySem.W.excIn K e_NoPlace [.type "ValueError", .type "Exception", .type "BaseException", .type "object"] "ValueError.__new__" = true)
    (ea_NoText : PySem.W.nsIn K mainGlobals "NoText" = some (some (.ref e_NoText))) (ek_NoText : PySem.W.keepIn K (.ref e_NoText) = true) (es_NoText : PySem.W.subIn K (.ref e_NoText) (.type "BaseException") = some true) (et_NoText : PySem.W.typeIn K (.ref e_NoText) = some (.type "type")) (ex_NoText : PySem.W.excIn K e_NoText [.type "ValueError", .type "Exception", .type "BaseException", .type "object"] "ValueError.__new__" = true)
    (ea_NoShape : PySem.W.nsIn K mainGlobals "NoShape" = some (some (.ref e_NoShape))) (ek_NoShape : PySem.W.keepIn K (.ref e_NoShape) = true) (es_NoShape : PySem.W.subIn K (.ref e_NoShape) (.type "BaseException") = some true) (et_NoShape : PySem.W.typeIn K (.ref e_NoShape) = some (.type "type")) (ex_NoShape : PySem.W.excIn K e_NoShape [.type "ValueError", .type "Exception", .type "BaseException", .type "object"] "ValueError.__new__" = true)
    (ea_NoneYet : PySem.W.nsIn K mainGlobals "NoneYet" = some (some (.ref e_NoneYet))) (ek_NoneYet : PySem.W.keepIn K (.ref e_NoneYet) = true) (es_NoneYet : PySem.W.subIn K (.ref e_NoneYet) (.type "BaseException") = some true) (et_NoneYet : PySem.W.typeIn K (.ref e_NoneYet) = some (.type "type")) (ex_NoneYet : PySem.W.excIn K e_NoneYet [.type "ValueError", .type "Exception", .type "BaseException", .type "object"] "ValueError.__new__" = true)
    (ea_NoRound : PySem.W.nsIn K mainGlobals "NoRound" = some (some (.ref e_NoRound))) (ek_NoRound : PySem.W.keepIn K (.ref e_NoRound) = true) (es_NoRound : PySem.W.subIn K (.ref e_NoRound) (.type "BaseException") = some true) (et_NoRound : PySem.W.typeIn K (.ref e_NoRound) = some (.type "type")) (ex_NoRound : PySem.W.excIn K e_NoRound [.type "ValueError", .type "Exception", .type "BaseException", .type "object"] "ValueError.__new__" = true)
    (td_TopError : PySem.W.hasDictIn K e_TopError = true)
    (td_NoStretch : PySem.W.hasDictIn K e_NoStretch = true)
    (td_NoLength : PySem.W.hasDictIn K e_NoLength = true)
    (td_NoCount : PySem.W.hasDictIn K e_NoCount = true)
    (td_NoPlace : PySem.W.hasDictIn K e_NoPlace = true)
    (td_NoText : PySem.W.hasDictIn K e_NoText = true)
    (td_NoShape : PySem.W.hasDictIn K e_NoShape = true)
    (td_NoneYet : PySem.W.hasDictIn K e_NoneYet = true)
    (td_NoRound : PySem.W.hasDictIn K e_NoRound = true)
    (tn : PySem.W.specialIn K (.builtin "object.__class__") "__get__" = some (some (.builtin "getset_descriptor.__get__"))) (tt : PySem.W.takesIn K (.builtin "object.__class__") = some true) (zv : PySem.W.nsIn K mainGlobals "ValueError" = some none)
    (tg_NoText : PySem.W.findIn K (.ref e_NoText) "__getattribute__" = some (some (.builtin "BaseException.__getattribute__"))) (tk_NoText : PySem.W.findIn K (.ref e_NoText) "__getattr__" = some none) (ta_NoText : PySem.W.findIn K (.ref e_NoText) "__class__" = some (some (.builtin "object.__class__"))) (tm_NoText : PySem.W.mroIn K e_NoText (.type "object") = some true) (ts_NoText : PySem.W.subIn K (.ref e_NoText) (.ref e_TopError) = some true)
    (ki_NoText_NoStretch : PySem.W.kitOne K (.ref e_NoText) (.ref e_NoStretch) = some false)
    (ki_NoText_NoLength : PySem.W.kitOne K (.ref e_NoText) (.ref e_NoLength) = some false)
    (ki_NoText_NoCount : PySem.W.kitOne K (.ref e_NoText) (.ref e_NoCount) = some false)
    (ki_NoText_NoPlace : PySem.W.kitOne K (.ref e_NoText) (.ref e_NoPlace) = some false)
    (ki_NoText_NoText : PySem.W.kitOne K (.ref e_NoText) (.ref e_NoText) = some true)
    (ki_NoText_NoShape : PySem.W.kitOne K (.ref e_NoText) (.ref e_NoShape) = some false)
    (ki_NoText_NoneYet : PySem.W.kitOne K (.ref e_NoText) (.ref e_NoneYet) = some false)
    (ki_NoText_NoRound : PySem.W.kitOne K (.ref e_NoText) (.ref e_NoRound) = some false)
    (ki_NoText_ValueError : PySem.W.kitOne K (.ref e_NoText) (.type "ValueError") = some true)
    (z_len : PySem.W.nsIn K mainGlobals "len" = some none)
    (z_abs : PySem.W.nsIn K mainGlobals "abs" = some none)
    (z_min : PySem.W.nsIn K mainGlobals "min" = some none)
    (z_max : PySem.W.nsIn K mainGlobals "max" = some none)
    (z_sum : PySem.W.nsIn K mainGlobals "sum" = some none)
    (z_list : PySem.W.nsIn K mainGlobals "list" = some none)
    (z_int : PySem.W.nsIn K mainGlobals "int" = some none)
    (z_all : PySem.W.nsIn K mainGlobals "all" = some none)
    (z_str : PySem.W.nsIn K mainGlobals "str" = some none)
    (z_sorted : PySem.W.nsIn K mainGlobals "sorted" = some none)
    (z_range : PySem.W.nsIn K mainGlobals "range" = some none)
    (z_enumerate : PySem.W.nsIn K mainGlobals "enumerate" = some none)
    (z_zip : PySem.W.nsIn K mainGlobals "zip" = some none)
    (z_isinstance : PySem.W.nsIn K mainGlobals "isinstance" = some none)
    (z_bool : PySem.W.nsIn K mainGlobals "bool" = some none)
    (z_tuple : PySem.W.nsIn K mainGlobals "tuple" = some none)
    (z_set : PySem.W.nsIn K mainGlobals "set" = some none)
    (cn_FIGURES : PySem.W.nsIn K mainGlobals "FIGURES" = some (some (.str "0123456789" tk_FIGURES)))
    (cn_MOST_FIGURES : PySem.W.nsIn K mainGlobals "MOST_FIGURES" = some (some (.int 30 tk_MOST_FIGURES))) :
    ∃ fd : FuncData, (∀ (s : Shared) (v : Value), BindsTo s fd ⟨[v], []⟩ [("script", v)]) ∧ ∀ base : Heap, K.In base → base.Ns mainGlobals mg → FnOk l.prog w K mg base (L2.CX l.prog w) k fa fd ["script"] (spLaw K) := by
  have e := hfa.symm.trans (PySem.W.mg_of X G a_law)
  cases e
  have top : Top K mg (clsOf [("TopError", e_TopError), ("NoStretch", e_NoStretch), ("NoLength", e_NoLength), ("NoCount", e_NoCount), ("NoPlace", e_NoPlace), ("NoText", e_NoText), ("NoShape", e_NoShape), ("NoneYet", e_NoneYet), ("NoRound", e_NoRound)]) con exc := ⟨?_, ?_, ?_, ?_, ?_⟩
  · have all : ∀ f b, fns.lookup f = some b → ∃ a fd ps, DefAt K mg tbl fns con exc f a fd ps := by
      unfold fns
      refine lk_cons (da_mk X G a_figures_of l_figures_of c_figures_of k_figures_of sc_figures_of (by kernel_rfl) rfl rfl cc_figures_of (by decide +kernel) (by decide +kernel) (fun us hl => match us, hl with | [_], _ => rfl)) ?_
      refine lk_cons (da_mk X G a_number_told l_number_told c_number_told k_number_told sc_number_told (by kernel_rfl) rfl rfl cc_number_told (by decide +kernel) (by decide +kernel) (fun us hl => match us, hl with | [_], _ => rfl)) ?_
      refine lk_cons (da_mk X G a_read_row l_read_row c_read_row k_read_row sc_read_row (by kernel_rfl) rfl rfl cc_read_row (by decide +kernel) (by decide +kernel) (fun us hl => match us, hl with | [_], _ => rfl)) ?_
      refine lk_cons (da_mk X G a_law_stir l_law_stir c_law_stir k_law_stir sc_law_stir (by kernel_rfl) rfl rfl cc_law_stir (by decide +kernel) (by decide +kernel) (fun us hl => match us, hl with | [_, _], _ => rfl)) ?_
      refine lk_cons (da_mk X G a_law_row l_law_row c_law_row k_law_row sc_law_row (by kernel_rfl) rfl rfl cc_law_row (by decide +kernel) (by decide +kernel) (fun us hl => match us, hl with | [_, _], _ => rfl)) ?_
      refine lk_cons (da_mk X G a_law_same l_law_same c_law_same k_law_same sc_law_same (by kernel_rfl) rfl rfl cc_law_same (by decide +kernel) (by decide +kernel) (fun us hl => match us, hl with | [_, _], _ => rfl)) ?_
      refine lk_cons (da_mk X G a_law_text l_law_text c_law_text k_law_text sc_law_text (by kernel_rfl) rfl rfl cc_law_text (by decide +kernel) (by decide +kernel) (fun us hl => match us, hl with | [_], _ => rfl)) ?_
      refine lk_cons (da_mk X G a_law_refused l_law_refused c_law_refused k_law_refused sc_law_refused (by kernel_rfl) rfl rfl cc_law_refused (by decide +kernel) (by decide +kernel) (fun us hl => match us, hl with | [_], _ => rfl)) ?_
      refine lk_cons (da_mk X G a_law_due l_law_due c_law_due k_law_due sc_law_due (by kernel_rfl) rfl rfl cc_law_due (by decide +kernel) (by decide +kernel) (fun us hl => match us, hl with | [_], _ => rfl)) ?_
      refine lk_cons (da_mk X G a_law_spoilt l_law_spoilt c_law_spoilt k_law_spoilt sc_law_spoilt (by kernel_rfl) rfl rfl cc_law_spoilt (by decide +kernel) (by decide +kernel) (fun us hl => match us, hl with | [_, _, _], _ => rfl)) ?_
      refine lk_cons (da_mk X G a_law l_law c_law k_law sc_law (by kernel_rfl) rfl rfl cc_law (by decide +kernel) (by decide +kernel) (fun us hl => match us, hl with | [_], _ => rfl)) ?_
      exact lk_nil
    have dl : DefAt K mg tbl fns con exc "law" fa _ ["script"] := ⟨⟨"law", s_law, _, 0, 40, 40, PV.c_law, fun_mk l_law c_law k_law, sc_law, by kernel_rfl, rfl, rfl, cc_law, by decide +kernel⟩, .all (fun us hl => match us, hl with | [_], _ => rfl), PySem.W.mg_of X G a_law, k_law, by decide +kernel⟩
    have hfv : ∀ f, f ∈ exc.fv → ∃ b, fns.lookup f = some b := by
      unfold exc; dsimp only; exact mem_nil
    exact ⟨_, fun s v => .of_eq rfl, fun base _ _ => (fn_ok top all hfv k dl).imp (law_imp hl)⟩
  · exact mem_cons (PySem.W.mg_none_of X G z_len) (mem_cons (PySem.W.mg_none_of X G z_abs) (mem_cons (PySem.W.mg_none_of X G z_min) (mem_cons (PySem.W.mg_none_of X G z_max) (mem_cons (PySem.W.mg_none_of X G z_sum) (mem_cons (PySem.W.mg_none_of X G z_list) (mem_cons (PySem.W.mg_none_of X G z_int) (mem_cons (PySem.W.mg_none_of X G z_all) (mem_cons (PySem.W.mg_none_of X G z_str) (mem_cons (PySem.W.mg_none_of X G z_sorted) (mem_cons (PySem.W.mg_none_of X G z_range) (mem_cons (PySem.W.mg_none_of X G z_enumerate) (mem_cons (PySem.W.mg_none_of X G z_zip) (mem_cons (PySem.W.mg_none_of X G z_isinstance) (mem_cons (PySem.W.mg_none_of X G z_bool) (mem_cons (PySem.W.mg_none_of X G z_tuple) (mem_cons (PySem.W.mg_none_of X G z_set) (mem_nil)))))))))))))))))
  · unfold con; exact lk2_cons ⟨by decide +kernel, _, .str "0123456789", PySem.W.mg_of X G cn_FIGURES, ⟨_, rfl⟩, fun w => by unfold Rep; rfl⟩ (lk2_cons ⟨by decide +kernel, _, .int 30, PySem.W.mg_of X G cn_MOST_FIGURES, ⟨_, rfl⟩, fun w => by unfold Rep; rfl⟩ (lk2_nil))
  · unfold exc; dsimp only; exact lk2_cons ⟨e_NoText, e_TopError, by kernel_rfl, ⟨tg_NoText, tk_NoText, es_NoText, td_NoText, ta_NoText, tn, tt, tm_NoText⟩, PySem.W.mg_of X G ea_TopError, by decide +kernel, PySem.W.exm_ref es_TopError td_TopError et_TopError ts_NoText, ea_NoText, lk2_cons ⟨by decide +kernel, .inl ⟨e_NoStretch, PySem.W.mg_of X G ea_NoStretch, ki_NoText_NoStretch⟩⟩ (lk2_cons ⟨by decide +kernel, .inl ⟨e_NoLength, PySem.W.mg_of X G ea_NoLength, ki_NoText_NoLength⟩⟩ (lk2_cons ⟨by decide +kernel, .inl ⟨e_NoCount, PySem.W.mg_of X G ea_NoCount, ki_NoText_NoCount⟩⟩ (lk2_cons ⟨by decide +kernel, .inl ⟨e_NoPlace, PySem.W.mg_of X G ea_NoPlace, ki_NoText_NoPlace⟩⟩ (lk2_cons ⟨by decide +kernel, .inl ⟨e_NoText, PySem.W.mg_of X G ea_NoText, ki_NoText_NoText⟩⟩ (lk2_cons ⟨by decide +kernel, .inl ⟨e_NoShape, PySem.W.mg_of X G ea_NoShape, ki_NoText_NoShape⟩⟩ (lk2_cons ⟨by decide +kernel, .inl ⟨e_NoneYet, PySem.W.mg_of X G ea_NoneYet, ki_NoText_NoneYet⟩⟩ (lk2_cons ⟨by decide +kernel, .inl ⟨e_NoRound, PySem.W.mg_of X G ea_NoRound, ki_NoText_NoRound⟩⟩ (lk2_cons ⟨by decide +kernel, .inr ⟨rfl, PySem.W.mg_none_of X G zv, ki_NoText_ValueError⟩⟩ (lk2_nil)))))))))⟩ (lk2_nil)
  · unfold exc; dsimp only; exact mem_nil
  · unfold exc; dsimp only; exact mem_cons ⟨by decide +kernel, e_TopError, PySem.W.mg_of X G ea_TopError, by kernel_rfl, ek_TopError, es_TopError, et_TopError, ex_TopError⟩ (mem_cons ⟨by decide +kernel, e_NoStretch, PySem.W.mg_of X G ea_NoStretch, by kernel_rfl, ek_NoStretch, es_NoStretch, et_NoStretch, ex_NoStretch⟩ (mem_cons ⟨by decide +kernel, e_NoLength, PySem.W.mg_of X G ea_NoLength, by kernel_rfl, ek_NoLength, es_NoLength, et_NoLength, ex_NoLength⟩ (mem_cons ⟨by decide +kernel, e_NoCount, PySem.W.mg_of X G ea_NoCount, by kernel_rfl, ek_NoCount, es_NoCount, et_NoCount, ex_NoCount⟩ (mem_cons ⟨by decide +kernel, e_NoPlace, PySem.W.mg_of X G ea_NoPlace, by kernel_rfl, ek_NoPlace, es_NoPlace, et_NoPlace, ex_NoPlace⟩ (mem_cons ⟨by decide +kernel, e_NoText, PySem.W.mg_of X G ea_NoText, by kernel_rfl, ek_NoText, es_NoText, et_NoText, ex_NoText⟩ (mem_cons ⟨by decide +kernel, e_NoShape, PySem.W.mg_of X G ea_NoShape, by kernel_rfl, ek_NoShape, es_NoShape, et_NoShape, ex_NoShape⟩ (mem_cons ⟨by decide +kernel, e_NoneYet, PySem.W.mg_of X G ea_NoneYet, by kernel_rfl, ek_NoneYet, es_NoneYet, et_NoneYet, ex_NoneYet⟩ (mem_cons ⟨by decide +kernel, e_NoRound, PySem.W.mg_of X G ea_NoRound, by kernel_rfl, ek_NoRound, es_NoRound, et_NoRound, ex_NoRound⟩ (mem_nil)))))))))
-- FACTS a_figures_of l_figures_of c_figures_of k_figures_of a_number_told l_number_told c_number_told k_number_told a_read_row l_read_row c_read_row k_read_row a_law_stir l_law_stir c_law_stir k_law_stir a_law_row l_law_row c_law_row k_law_row a_law_same l_law_same c_law_same k_law_same a_law_text l_law_text c_law_text k_law_text a_law_refused l_law_refused c_law_refused k_law_refused a_law_due l_law_due c_law_due k_law_due a_law_spoilt l_law_spoilt c_law_spoilt k_law_spoilt a_law l_law c_law k_law ea_TopError ek_TopError es_TopError et_TopError ex_TopError ea_NoStretch ek_NoStretch es_NoStretch et_NoStretch ex_NoStretch ea_NoLength ek_NoLength es_NoLength et_NoLength ex_NoLength ea_NoCount ek_NoCount es_NoCount et_NoCount ex_NoCount ea_NoPlace ek_NoPlace es_NoPlace et_NoPlace ex_NoPlace ea_NoText ek_NoText es_NoText et_NoText ex_NoText ea_NoShape ek_NoShape es_NoShape et_NoShape ex_NoShape ea_NoneYet ek_NoneYet es_NoneYet et_NoneYet ex_NoneYet ea_NoRound ek_NoRound es_NoRound et_NoRound ex_NoRound td_TopError td_NoStretch td_NoLength td_NoCount td_NoPlace td_NoText td_NoShape td_NoneYet td_NoRound tn tt zv tg_NoText tk_NoText ta_NoText tm_NoText ts_NoText ki_NoText_NoStretch ki_NoText_NoLength ki_NoText_NoCount ki_NoText_NoPlace ki_NoText_NoText ki_NoText_NoShape ki_NoText_NoneYet ki_NoText_NoRound ki_NoText_ValueError z_len z_abs z_min z_max z_sum z_list z_int z_all z_str z_sorted z_range z_enumerate z_zip z_isinstance z_bool z_tuple z_set cn_FIGURES cn_MOST_FIGURES
end PV
open PySem PySem.W PyProof.Rows
set_option maxHeartbeats 0 in
theorem PySem.Challenge.cw_topstretch_k39_texts_of_no_row_holds : PySem.Challenge.rw_topstretch_k39_texts_of_no_row.Holds := by
  w_on; o_law; k_head; (case hw => w_witness2)
  k_fill
  refine L2.walk_ofB (l := PySem.Challenge.rw_topstretch_k39_texts_of_no_row) (n := 63) (k := PV.lawK) (x := "script") (CX := fun w => L2.CX PySem.Challenge.pw_topstretch_k39_texts_of_no_row w) (sp := fun w => PV.spLaw _) rfl (by decide) rfl ⟨rfl, by decide, by decide⟩ (fun w h Y => PySem.W.kIn_of Y) ?F (fun _ _ a ns hl hb _ hS => ⟨a, ns, rfl, hS, hl, hb, fun _ => rfl⟩) (fun _ _ _ _ _ h => PV.cx_no h)
  case F =>
    intro w mg fa h KX G hmg
    refine' PV.all_mk (l := PySem.Challenge.rw_topstretch_k39_texts_of_no_row) KX G hmg PV.lawK PV.law_true ?a_figures_of ?l_figures_of ?c_figures_of ?k_figures_of ?a_number_told ?l_number_told ?c_number_told ?k_number_told ?a_read_row ?l_read_row ?c_read_row ?k_read_row ?a_law_stir ?l_law_stir ?c_law_stir ?k_law_stir ?a_law_row ?l_law_row ?c_law_row ?k_law_row ?a_law_same ?l_law_same ?c_law_same ?k_law_same ?a_law_text ?l_law_text ?c_law_text ?k_law_text ?a_law_refused ?l_law_refused ?c_law_refused ?k_law_refused ?a_law_due ?l_law_due ?c_law_due ?k_law_due ?a_law_spoilt ?l_law_spoilt ?c_law_spoilt ?k_law_spoilt ?a_law ?l_law ?c_law ?k_law ?ea_TopError ?ek_TopError ?es_TopError ?et_TopError ?ex_TopError ?ea_NoStretch ?ek_NoStretch ?es_NoStretch ?et_NoStretch ?ex_NoStretch ?ea_NoLength ?ek_NoLength ?es_NoLength ?et_NoLength ?ex_NoLength ?ea_NoCount ?ek_NoCount ?es_NoCount ?et_NoCount ?ex_NoCount ?ea_NoPlace ?ek_NoPlace ?es_NoPlace ?et_NoPlace ?ex_NoPlace ?ea_NoText ?ek_NoText ?es_NoText ?et_NoText ?ex_NoText ?ea_NoShape ?ek_NoShape ?es_NoShape ?et_NoShape ?ex_NoShape ?ea_NoneYet ?ek_NoneYet ?es_NoneYet ?et_NoneYet ?ex_NoneYet ?ea_NoRound ?ek_NoRound ?es_NoRound ?et_NoRound ?ex_NoRound ?td_TopError ?td_NoStretch ?td_NoLength ?td_NoCount ?td_NoPlace ?td_NoText ?td_NoShape ?td_NoneYet ?td_NoRound ?tn ?tt ?zv ?tg_NoText ?tk_NoText ?ta_NoText ?tm_NoText ?ts_NoText ?ki_NoText_NoStretch ?ki_NoText_NoLength ?ki_NoText_NoCount ?ki_NoText_NoPlace ?ki_NoText_NoText ?ki_NoText_NoShape ?ki_NoText_NoneYet ?ki_NoText_NoRound ?ki_NoText_ValueError ?z_len ?z_abs ?z_min ?z_max ?z_sum ?z_list ?z_int ?z_all ?z_str ?z_sorted ?z_range ?z_enumerate ?z_zip ?z_isinstance ?z_bool ?z_tuple ?z_set ?cn_FIGURES ?cn_MOST_FIGURES
    (case a_figures_of => k_is)
    (case l_figures_of => k_is)
    (case c_figures_of => k_is)
    (case k_figures_of => k_is)
    (case a_number_told => k_is)
    (case l_number_told => k_is)
    (case c_number_told => k_is)
    (case k_number_told => k_is)
    (case a_read_row => k_is)
    (case l_read_row => k_is)
    (case c_read_row => k_is)
    (case k_read_row => k_is)
    (case a_law_stir => k_is)
    (case l_law_stir => k_is)
    (case c_law_stir => k_is)
    (case k_law_stir => k_is)
    (case a_law_row => k_is)
    (case l_law_row => k_is)
    (case c_law_row => k_is)
    (case k_law_row => k_is)
    (case a_law_same => k_is)
    (case l_law_same => k_is)
    (case c_law_same => k_is)
    (case k_law_same => k_is)
    (case a_law_text => k_is)
    (case l_law_text => k_is)
    (case c_law_text => k_is)
    (case k_law_text => k_is)
    (case a_law_refused => k_is)
    (case l_law_refused => k_is)
    (case c_law_refused => k_is)
    (case k_law_refused => k_is)
    (case a_law_due => k_is)
    (case l_law_due => k_is)
    (case c_law_due => k_is)
    (case k_law_due => k_is)
    (case a_law_spoilt => k_is)
    (case l_law_spoilt => k_is)
    (case c_law_spoilt => k_is)
    (case k_law_spoilt => k_is)
    (case a_law => k_is)
    (case l_law => k_is)
    (case c_law => k_is)
    (case k_law => k_is)
    (case ea_TopError => k_is)
    (case ek_TopError => k_is)
    (case es_TopError => k_is)
    (case et_TopError => k_is)
    (case ex_TopError => first | k_exc | k_is)
    (case ea_NoStretch => k_is)
    (case ek_NoStretch => k_is)
    (case es_NoStretch => k_is)
    (case et_NoStretch => k_is)
    (case ex_NoStretch => first | k_exc | k_is)
    (case ea_NoLength => k_is)
    (case ek_NoLength => k_is)
    (case es_NoLength => k_is)
    (case et_NoLength => k_is)
    (case ex_NoLength => first | k_exc | k_is)
    (case ea_NoCount => k_is)
    (case ek_NoCount => k_is)
    (case es_NoCount => k_is)
    (case et_NoCount => k_is)
    (case ex_NoCount => first | k_exc | k_is)
    (case ea_NoPlace => k_is)
    (case ek_NoPlace => k_is)
    (case es_NoPlace => k_is)
    (case et_NoPlace => k_is)
    (case ex_NoPlace => first | k_exc | k_is)
    (case ea_NoText => k_is)
    (case ek_NoText => k_is)
    (case es_NoText => k_is)
    (case et_NoText => k_is)
    (case ex_NoText => first | k_exc | k_is)
    (case ea_NoShape => k_is)
    (case ek_NoShape => k_is)
    (case es_NoShape => k_is)
    (case et_NoShape => k_is)
    (case ex_NoShape => first | k_exc | k_is)
    (case ea_NoneYet => k_is)
    (case ek_NoneYet => k_is)
    (case es_NoneYet => k_is)
    (case et_NoneYet => k_is)
    (case ex_NoneYet => first | k_exc | k_is)
    (case ea_NoRound => k_is)
    (case ek_NoRound => k_is)
    (case es_NoRound => k_is)
    (case et_NoRound => k_is)
    (case ex_NoRound => first | k_exc | k_is)
    (case td_TopError => k_is)
    (case td_NoStretch => k_is)
    (case td_NoLength => k_is)
    (case td_NoCount => k_is)
    (case td_NoPlace => k_is)
    (case td_NoText => k_is)
    (case td_NoShape => k_is)
    (case td_NoneYet => k_is)
    (case td_NoRound => k_is)
    (case tn => k_is)
    (case tt => k_is)
    (case zv => k_is)
    (case tg_NoText => k_is)
    (case tk_NoText => k_is)
    (case ta_NoText => k_is)
    (case tm_NoText => k_is)
    (case ts_NoText => k_is)
    (case ki_NoText_NoStretch => kit_is)
    (case ki_NoText_NoLength => kit_is)
    (case ki_NoText_NoCount => kit_is)
    (case ki_NoText_NoPlace => kit_is)
    (case ki_NoText_NoText => kit_is)
    (case ki_NoText_NoShape => kit_is)
    (case ki_NoText_NoneYet => kit_is)
    (case ki_NoText_NoRound => kit_is)
    (case ki_NoText_ValueError => kit_is)
    (case z_len => k_is)
    (case z_abs => k_is)
    (case z_min => k_is)
    (case z_max => k_is)
    (case z_sum => k_is)
    (case z_list => k_is)
    (case z_int => k_is)
    (case z_all => k_is)
    (case z_str => k_is)
    (case z_sorted => k_is)
    (case z_range => k_is)
    (case z_enumerate => k_is)
    (case z_zip => k_is)
    (case z_isinstance => k_is)
    (case z_bool => k_is)
    (case z_tuple => k_is)
    (case z_set => k_is)
    (case cn_FIGURES => k_is)
    (case cn_MOST_FIGURES => k_is)
