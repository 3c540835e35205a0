import PyProof.Rows.All
import Wide.All
import OpenK.AllK
import Wide.FinOn
import HandS.ForMost
import HandS.AnyAll
import HandS.TupAny
import HandS.Defaults
import HandS.Wide
import HandS.TupMul
import HandS.Flow
import HandS.Style
import HandS.Iter
import HandS.Zip
import HandS.Conv
import HandS.IsInst
import KE.GoesMore
import KE.GoesZip
import KE.GoesEnum
import PyProof.GenCompT
import KE.KDictIter
import PyProof.FactsGen
import HandS.Strs
import HandS.Star
import HandS.TupSets
import KE.KRevSl
import HandS.NoneIn
import HandS.Exc
import HandS.Head1
import HandS.HeadHook2
import HandS.HeadWalk
import KE.KNestM
import KE.KStateDown
import HandS.Head0
import HandS.Head2
import HandS.HeadEnd
import HandS.HeadHook1
import PySem.Challenge.RW_tablerings_k00_whole_spaces_and_their_ba
-- EvA
set_option Elab.async false
set_option linter.all false
set_option maxRecDepth 100000
/-! EvA: a small evaluator over plain data. -/
namespace Ev
open PySem
/-- a value -/
inductive D where
  | una
  | non | bl (b : Bool) | int (i : Int) | str (x : Str) | ty (n : String)
  | tup (ds : List D)
  | frl (ds : List D)
  | fn (f : Nat)
  | ptr (a : Nat)
  | mtp (ds : List D)
  | emp
  deriving Inhabited
abbrev Hh := List (List D)
abbrev Sg := List D
inductive BOp where | add | sub | mul | mod | fdiv | pow
  deriving DecidableEq
inductive COp where | eq | ne | lt | le | gt | ge | inn | nin | isN | notN
  deriving DecidableEq
inductive Bi where | len | int | abs | max2 | min2 | max1 | sum | any | all | tuple | list | isIntB | isBoolB | isTupB
  deriving DecidableEq
inductive I where
  | var (i : Nat) | cst (d : D) | glb (k : Nat) | gdx (k : Nat) (e : I)
  | tup (a : I) | lst (a : I)
  | anil | acons (e r : I) | astar (e r : I)
  | bin (o : BOp) (a b : I) | neg (a : I)
  | cmp (o : COp) (a b : I) | chn (o p : COp) (a b c : I)
  | and (a b : I) | or (a b : I) | one (a : I) | tv (a : I) | po (a : I) | not (a : I) | ife (t a b : I)
  | dct
  | ix (a i : I) | sl (a lo hi : I) | pno
  | cal (f : Nat) (a : I) | blt (b : Bi) (a : I) | isi (b : Bi) (e : I)
  | app (o e : I) | pop (o : I) | ext (o e : I) | idx (o e : I) | fst0 (a : I) | stp (a e : I) | lset (a : I) | frz (a : I)
  | lc2 (tg it tg1 it1 ifs e : I) (own own1 : List Nat)
  | lc (tg it ifs e : I) (own : List Nat)
  | iS (e : I) | iR (a : I) | iE (e : I) | iZ (a b : I)
  | gv (i : Nat) | gt (g : I) | gnil | gcons (g r : I) | gx (o i : I)
  | sAsg (g e : I) | sPar2 (i j : Nat) (a b : I) | sPar3 (i j k : Nat) (a b c : I)
  | sAug (i : Nat) (o : BOp) (e : I) | sAugX (o i : I) (op : BOp) (e : I)
  | sExp (e : I) | sFor (tg it b : I) | sWh (t b : I) | sIf (t a b : I) | sRet (e : I) | sRetN
  | sNever | sPass | sBrk | sCnt | sNil | sCons (s r : I)
/-- a source that is walked -/
inductive Src where
  | sq (d : D) | rg (lo c : Int) (n : Nat) | en (d : D) | zp (d e : D)
structure Xc where
  cls : Str
  arg : D
inductive R where
  | ok (d : D) (h : Hh)
  | oks (ds : List D) (h : Hh)
  | osr (s : Src) (h : Hh)
  | nx (σ : Sg) (h : Hh) | bk (σ : Sg) (h : Hh) | ct (σ : Sg) (h : Hh) | rt (d : D) (h : Hh)
  | no
structure Fd where
  ar : Nat
  sz : Nat
  body : I
/-- a program: its defs, its constants, its dicts -/
structure Pg where
  fs : List Fd
  cs : List D
  ds : List (List (Int × D))
def line : Nat := 16777216
def isPtr : D → Bool
  | .ptr _ => true
  | .mtp _ => true
  | .una => true
  | _ => false
/-- a tuple of such items -/
def mkT (ds : List D) : D := match ds.any isPtr with
  | true => .mtp ds
  | false => .tup ds
/-- the items of a list or a tuple -/
def itemsOf (h : Hh) : D → Option (List D)
  | .tup ds => some ds
  | .mtp ds => some ds
  | .frl ds => some ds
  | .ptr a => h[a]?
  | _ => none
def sqAt (h : Hh) (d : D) (i : Nat) : Option (Option D) := match itemsOf h d with
  | some ds => some ds[i]?
  | none => none
def srcAt (h : Hh) : Src → Nat → Option (Option D)
  | .sq d, i => sqAt h d i
  | .rg lo c n, i => match Nat.blt i n with
    | true => some (some (.int (lo + (i : Int) * c)))
    | false => some none
  | .en d, i => match itemsOf h d with
    | some ds => match ds[i]? with
      | some x => some (some (mkT [.int (i : Int), x]))
      | none => match Nat.beq i ds.length with
        | true => some none
        | false => none
    | none => none
  | .zp d e, i => match itemsOf h d, itemsOf h e with
    | some ds, some es => match ds[i]?, es[i]? with
      | some x, some y => some (some (mkT [x, y]))
      | _, _ => match Nat.ble i ds.length && Nat.ble i es.length with
        | true => some none
        | false => none
    | _, _ => none
def tru (h : Hh) : D → Option Bool
  | .non => some false
  | .bl b => some b
  | .int i => some (i != 0)
  | .tup ds => some !ds.isEmpty
  | .mtp ds => some !ds.isEmpty
  | .frl ds => some !ds.isEmpty
  | .ptr a => match h[a]? with
    | some ds => some !ds.isEmpty
    | none => none
  | _ => none
def mapO (f : D → Option PyData) : List D → Option (List PyData)
  | [] => some []
  | d :: ds => match f d with
    | some p => match mapO f ds with
      | some ps => some (p :: ps)
      | none => none
    | none => none
/-- the data that a value is, nested at most so deep -/
def py (h : Hh) : Nat → D → Option PyData
  | 0, _ => none
  | n + 1, d => match d with
    | .non => some .none
    | .bl b => some (.bool b)
    | .int i => some (.int i)
    | .str x => some (.str x)
    | .tup ds => match mapO (py h n) ds with
      | some ps => some (.tuple ps)
      | none => none
    | .mtp ds => match mapO (py h n) ds with
      | some ps => some (.tuple ps)
      | none => none
    | .frl ds => match mapO (py h n) ds with
      | some ps => some (.list ps)
      | none => none
    | .ptr a => match h[a]? with
      | some ds => match mapO (py h n) ds with
        | some ps => some (.list ps)
        | none => none
      | none => none
    | _ => none
def pyEq (h : Hh) (x y : D) : Option Bool := match py h 20 x, py h 20 y with
  | some p, some q => match p.canLay0 && q.canLay0 with
    | true => some (PyData.eqv p q)
    | false => none
  | _, _ => none
def flatD : D → Bool
  | .non => true
  | .bl _ => true
  | .int _ => true
  | .str _ => true
  | _ => false
/-- == of flat things -/
def flatE : D → D → Bool
  | .non, .non => true
  | .bl a, .bl b => a == b
  | .bl a, .int b => (if a then 1 else 0) == b
  | .int a, .bl b => a == (if b then 1 else 0)
  | .int a, .int b => a == b
  | .str a, .str b => a == b
  | _, _ => false
def smallI (i : Int) : Bool := Nat.blt i.natAbs (2 ^ 64)
def mulOk (i j : Int) : Bool := smallI i || smallI j
def powOk (i j : Int) : Bool := match j with
  | .ofNat n => Nat.ble n 1000 && Nat.blt i.natAbs (2 ^ 1000)
  | .negSucc _ => false
def posI (j : Int) : Bool := match j with
  | .ofNat (_ + 1) => true
  | _ => false
def divOk (j : Int) : Bool := posI j && Nat.blt j.natAbs (2 ^ 8000)
def repO (ds : List D) (k : Int) : Option (List D) := match Nat.ble (ds.length * k.toNat) line && Nat.blt k.natAbs (2 ^ 62) with
  | true => some (List.replicate k.toNat ds).flatten
  | false => none
def catO (ds es : List D) : Option (List D) := match Nat.ble (ds.length + es.length) line with
  | true => some (ds ++ es)
  | false => none
def newL (h : Hh) (ds : List D) : R := .ok (.ptr h.length) (h ++ [ds])
def binop (o : BOp) (x y : D) (h : Hh) : R := match o with
  | .add => match x, y with
    | .int i, .int j => .ok (.int (i + j)) h
    | .tup ds, .tup es => match catO ds es with
      | some fs => .ok (.tup fs) h
      | none => .no
    | .ptr a, .ptr b => match h[a]?, h[b]? with
      | some ds, some es => match catO ds es with
        | some fs => newL h fs
        | none => .no
      | _, _ => .no
    | _, _ => .no
  | .sub => match x, y with
    | .int i, .int j => .ok (.int (i - j)) h
    | _, _ => .no
  | .mul => match x, y with
    | .int i, .int j => match mulOk i j with
      | true => .ok (.int (i * j)) h
      | false => .no
    | .tup ds, .int k => match repO ds k with
      | some fs => .ok (.tup fs) h
      | none => .no
    | .ptr a, .int k => match h[a]? with
      | some ds => match repO ds k with
        | some fs => newL h fs
        | none => .no
      | none => .no
    | _, _ => .no
  | .mod => match x, y with
    | .int i, .int j => match posI j with
      | true => .ok (.int (i % j)) h
      | false => .no
    | _, _ => .no
  | .fdiv => match x, y with
    | .int i, .int j => match divOk j with
      | true => .ok (.int (i / j)) h
      | false => .no
    | _, _ => .no
  | .pow => match x, y with
    | .int i, .int j => match powOk i j with
      | true => .ok (.int (i ^ j.toNat)) h
      | false => .no
    | _, _ => .no
/-- what stands behind an augmented assignment -/
def augop (o : BOp) (x y : D) (h : Hh) : R := match x, y with
  | .int i, .int j => match o with
    | .pow => .no
    | o => binop o (.int i) (.int j) h
  | _, _ => .no
def bR (b : Bool) (h : Hh) : R := .ok (.bl b) h
def oB (o : Option Bool) (f : Bool → Bool) (h : Hh) : R := match o with
  | some b => .ok (.bl (f b)) h
  | none => .no
def intI (x y : D) (f : Int → Int → Bool) (h : Hh) : R := match x, y with
  | .int i, .int j => .ok (.bl (f i j)) h
  | _, _ => .no
def isNon : D → Option Bool
  | .non => some true
  | .una => none
  | _ => some false
def memH (h : Hh) (x y : D) : Option Bool := match flatD x, itemsOf h y with
  | true, some ds => match ds.all flatD with
    | true => some (ds.any fun y => flatE y x)
    | false => none
  | _, _ => none
def cmpop (o : COp) (x y : D) (h : Hh) : R := match o with
  | .eq => oB (pyEq h x y) (fun b => b) h
  | .ne => oB (pyEq h x y) (fun b => !b) h
  | .lt => intI x y (fun i j => decide (i < j)) h
  | .le => intI x y (fun i j => decide (i ≤ j)) h
  | .gt => intI x y (fun i j => decide (j < i)) h
  | .ge => intI x y (fun i j => decide (j ≤ i)) h
  | .inn => oB (memH h x y) (fun b => b) h
  | .nin => oB (memH h x y) (fun b => !b) h
  | .isN => match y with
    | .non => oB (isNon x) (fun b => b) h
    | _ => .no
  | .notN => match y with
    | .non => oB (isNon x) (fun b => !b) h
    | _ => .no
def intsD : List D → Option (List Int)
  | [] => some []
  | .int i :: ds => match intsD ds with
    | some is => some (i :: is)
    | none => none
  | _ => none
/-- the first place with a number other than 0 -/
def fstO : List Int → Option Nat
  | [] => none
  | x :: xs => match decide (x = 0) with
    | true => match fstO xs with
      | some i => some (i + 1)
      | none => none
    | false => some 0
def fstD (is : List Int) : D := match fstO is with
  | some i => .int (i : Int)
  | none => .non
/-- the first place of a number -/
def idxO (z : Int) : List Int → Option Nat
  | [] => none
  | x :: xs => match decide (x = z) with
    | true => some 0
    | false => match idxO z xs with
      | some i => some (i + 1)
      | none => none
/-- x[::k] -/
def nS (n k : Nat) : Nat := (n + k - 1) / k
def stepL {α : Type} (k : Int) (xs : List α) : List α := match decide (k < 0) with
  | true => xs.reverse
  | false => (List.range (nS xs.length k.toNat)).filterMap fun m => xs[m * k.toNat]?
def stepOk (k : Int) : Bool := match k with
  | .ofNat n => Nat.ble 2 n && Nat.blt n (2 ^ 60)
  | .negSucc n => Nat.beq n 0
/-- rows of ints; how many of them are unlike -/
def rowsD : List D → Option (List (List Int))
  | [] => some []
  | .tup es :: ds => match intsD es with
    | some is => match rowsD ds with
      | some r => some (is :: r)
      | none => none
    | none => none
  | _ => none
def nub : List (List Int) → List (List Int)
  | [] => []
  | x :: xs => match (nub xs).contains x with
    | true => nub xs
    | false => x :: nub xs
def maxL : Int → List Int → Int
  | m, [] => m
  | m, x :: xs => maxL (if x > m then x else m) xs
def bls : List D → Option (List Bool)
  | [] => some []
  | .bl b :: ds => match bls ds with
    | some bs => some (b :: bs)
    | none => none
  | _ => none
def known : D → Bool
  | .una => false
  | .fn _ => false
  | .ty _ => false
  | _ => true
def tyI : D → Bool
  | .int _ => true
  | .bl _ => true
  | _ => false
def tyB : D → Bool
  | .bl _ => true
  | _ => false
def tyT : D → Bool
  | .tup _ => true
  | .mtp _ => true
  | _ => false
def builtin (b : Bi) (vs : List D) (h : Hh) : R := match b with
  | .len => match vs with
    | [x] => match itemsOf h x with
      | some ds => .ok (.int ds.length) h
      | none => .no
    | _ => .no
  | .int => match vs with
    | [.int i] => .ok (.int i) h
    | [.bl b] => .ok (.int (if b then 1 else 0)) h
    | _ => .no
  | .abs => match vs with
    | [.int i] => .ok (.int (if i < 0 then -i else i)) h
    | _ => .no
  | .max2 => match vs with
    | [.int i, .int j] => .ok (.int (if j > i then j else i)) h
    | _ => .no
  | .min2 => match vs with
    | [.int i, .int j] => .ok (.int (if j < i then j else i)) h
    | _ => .no
  | .sum => match vs with
    | [.ptr a] => match h[a]? with
      | some ds => match intsD ds with
        | some is => .ok (.int is.sum) h
        | none => .no
      | none => .no
    | _ => .no
  | .max1 => match vs with
    | [x] => match itemsOf h x with
      | some ds => match intsD ds with
        | some (i :: is) => .ok (.int (maxL i is)) h
        | _ => .no
      | none => .no
    | _ => .no
  | .any => match vs with
    | [x] => match itemsOf h x with
      | some ds => match intsD ds with
        | some is => .ok (.bl (is.any fun i => i != 0)) h
        | none => match x with
          | .ptr a => match bls ds with
            | some bs => .ok (.bl (bs.any id)) h
            | none => .no
          | _ => .no
      | none => .no
    | _ => .no
  | .all => match vs with
    | [.ptr a] => match h[a]? with
      | some ds => match bls ds with
        | some bs => .ok (.bl (bs.all id)) h
        | none => .no
      | none => .no
    | _ => .no
  | .tuple => match vs with
    | [.ptr a] => match h[a]? with
      | some ds => .ok (mkT ds) h
      | none => .no
    | [.tup ds] => .ok (.tup ds) h
    | _ => .no
  | .list => match vs with
    | [x] => match itemsOf h x with
      | some ds => newL h ds
      | none => .no
    | _ => .no
  | .isIntB => match vs with
    | [x] => match known x with
      | true => .ok (.bl (tyI x)) h
      | false => .no
    | _ => .no
  | .isBoolB => match vs with
    | [x] => match known x with
      | true => .ok (.bl (tyB x)) h
      | false => .no
    | _ => .no
  | .isTupB => match vs with
    | [x] => match known x with
      | true => .ok (.bl (tyT x)) h
      | false => .no
    | _ => .no
/-- the place of an index -/
def ixN (n : Nat) : Int → Option Nat
  | .ofNat k => match Nat.blt k n with
    | true => some k
    | false => none
  | .negSucc k => match Nat.blt k n with
    | true => some (n - (k + 1))
    | false => none
def index (x i : D) (h : Hh) : R := match i with
  | .int k => match itemsOf h x with
    | some ds => match ixN ds.length k with
      | some j => match ds[j]? with
        | some d => .ok d h
        | none => .no
      | none => .no
    | none => .no
  | _ => .no
/-- a slice's end: none, or an int -/
def part : D → Option (Option Int)
  | .non => some none
  | .int i => some (some i)
  | _ => none
def clip (n d : Nat) : Option Int → Nat
  | none => d
  | some (.ofNat k) => min k n
  | some (.negSucc k) => n - (k + 1)
def cut (ds : List D) (lo hi : Option Int) : List D := (ds.drop (clip ds.length 0 lo)).take (clip ds.length ds.length hi - clip ds.length 0 lo)
def slice (x lo hi : D) (h : Hh) : R := match part lo, part hi with
  | some l, some u => match x with
    | .tup ds => .ok (.tup (cut ds l u)) h
    | .ptr a => match h[a]? with
      | some ds => newL h (cut ds l u)
      | none => .no
    | .frl ds => newL h (cut ds l u)
    | _ => .no
  | _, _ => .no
def setAt (x i d : D) (h : Hh) : Option Hh := match x, i with
  | .ptr a, .int k => match h[a]? with
    | some ds => match ixN ds.length k with
      | some j => match isPtr d with
        | true => none
        | false => some (h.set a (ds.set j d))
      | none => none
    | none => none
  | _, _ => none
def isUna : D → Bool
  | .una => true
  | _ => false
def getV (σ : Sg) (i : Nat) (h : Hh) : R := match σ[i]? with
  | some d => match isUna d with
    | true => .no
    | false => .ok d h
  | none => .no
def lookI (k : Int) : List (Int × D) → Option D
  | [] => none
  | (j, d) :: r => match decide (j = k) with
    | true => some d
    | false => lookI k r
def wipeD (σ : Sg) : List Nat → Sg
  | [] => σ
  | v :: vs => (wipeD σ vs).set v .una
/-- what follows with a value -/
def R.on (r : R) (f : D → Hh → R) : R := match r with
  | .ok d h => f d h
  | _ => .no
def R.ons (r : R) (f : List D → Hh → R) : R := match r with
  | .oks ds h => f ds h
  | _ => .no
def R.onsr (r : R) (f : Src → Hh → R) : R := match r with
  | .osr s h => f s h
  | _ => .no
def R.onb (r : R) (f : Bool → Hh → R) : R := match r with
  | .ok d h => match tru h d with
    | some b => f b h
    | none => .no
  | _ => .no
def R.onx (r : R) (f : Sg → Hh → R) : R := match r with
  | .nx σ h => f σ h
  | .rt d h => .rt d h
  | .bk σ h => .bk σ h
  | .ct σ h => .ct σ h
  | _ => .no
/-- a for's turns -/
def loopF (s : Src) (f : D → Sg → Hh → R) : Nat → Nat → Sg → Hh → R
  | 0, _, _, _ => .no
  | m + 1, i, σ, h => match srcAt h s i with
    | some (some d) => match f d σ h with
      | .nx σ' h' => loopF s f m (i + 1) σ' h'
      | .ct σ' h' => loopF s f m (i + 1) σ' h'
      | .bk σ' h' => .nx σ' h'
      | .rt d h' => .rt d h'
      | _ => .no
    | some none => .nx σ h
    | none => .no
def loopW (t : Sg → Hh → R) (f : Sg → Hh → R) : Nat → Sg → Hh → R
  | 0, _, _ => .no
  | m + 1, σ, h => (t σ h).onb fun b h1 => match b with
    | true => match f σ h1 with
      | .nx σ' h' => loopW t f m σ' h'
      | .ct σ' h' => loopW t f m σ' h'
      | .bk σ' h' => .nx σ' h'
      | .rt d h' => .rt d h'
      | _ => .no
    | false => .nx σ h1
/-- a comprehension's turns: f gives an item, or (nx) none -/
def loopC (s : Src) (f : D → Hh → R) : Nat → Nat → List D → Hh → R
  | 0, _, _, _ => .no
  | m + 1, i, acc, h => match srcAt h s i with
    | some (some d) => match f d h with
      | .ok x h' => loopC s f m (i + 1) (x :: acc) h'
      | .nx _ h' => loopC s f m (i + 1) acc h'
      | _ => .no
    | some none => match Nat.ble acc.length line with
      | true => .oks acc.reverse h
      | false => .no
    | none => .no
/-- the inner loop of a comprehension with two: what was found goes on -/
def loopA (s : Src) (f : D → Hh → R) : Nat → Nat → List D → Hh → R
  | 0, _, _, _ => .no
  | m + 1, i, acc, h => match srcAt h s i with
    | some (some d) => match f d h with
      | .ok x h' => loopA s f m (i + 1) (x :: acc) h'
      | .nx _ h' => loopA s f m (i + 1) acc h'
      | _ => .no
    | some none => .oks acc h
    | none => .no
def loopB (s : Src) (f : D → List D → Hh → R) : Nat → Nat → List D → Hh → R
  | 0, _, _, _ => .no
  | m + 1, i, acc, h => match srcAt h s i with
    | some (some d) => match f d acc h with
      | .oks acc' h' => loopB s f m (i + 1) acc' h'
      | _ => .no
    | some none => match Nat.ble acc.length line with
      | true => .oks acc.reverse h
      | false => .no
    | none => .no
def turns : Nat := 33554432
/-- behind a call: what the caller sees of the heap -/
def back (n : Nat) (d : D) (h : Hh) : R := match d with
  | .ptr a => match Nat.blt a n with
    | true => .ok (.ptr a) (h.take n)
    | false => match h[a]? with
      | some ds => match ds.any isPtr with
        | true => .ok (.ptr a) h
        | false => .ok (.ptr n) (h.take n ++ [ds])
      | none => .no
  | .mtp _ => .ok d h
  | .una => .no
  | _ => .ok d (h.take n)
def called (r : R) (n : Nat) : R := match r with
  | .rt d h => back n d h
  | .nx _ h => .ok .non (h.take n)
  | _ => .no
/-- the items of a tuple -/
def tupOf : D → Option (List D)
  | .tup ds => some ds
  | .mtp ds => some ds
  | _ => none
def stepAt (x y : D) (h : Hh) : R := match y with
  | .int k => match stepOk k with
    | true => match x with
      | .tup ds => .ok (.tup (stepL k ds)) h
      | .ptr a => match h[a]? with
        | some ds => newL h (stepL k ds)
        | none => .no
      | _ => .no
    | false => .no
  | _ => .no
/-- a list just made that is never written to -/
def frzAt (n : Nat) (x : D) (h1 : Hh) : R := match x with
  | .ptr b => match Nat.ble n b && Nat.beq (b + 1) h1.length with
    | true => match h1[b]? with
      | some ds => match ds.any isPtr with
        | false => .ok (.frl ds) (h1.take b)
        | true => .no
      | none => .no
    | false => .no
  | _ => .no
def lsetAt (x : D) (h : Hh) : R := match x with
  | .ptr a => match h[a]? with
    | some ds => match rowsD ds with
      | some rs => match Nat.blt rs.length 64 with
        | true => .ok (.int ((nub rs).length : Nat)) h
        | false => .no
      | none => .no
    | none => .no
  | _ => .no
/-- names one behind another -/
def asgs : I → List D → Sg → Hh → R
  | .gnil, ds, σ, h => match ds with
    | [] => .nx σ h
    | _ => .no
  | .gcons g r, ds, σ, h => match g with
    | .gv i => match ds with
      | d :: ds => asgs r ds (σ.set i d) h
      | [] => .no
    | _ => .no
  | _, _, _, _ => .no
/-- a target takes a value -/
def asg (E : I → Sg → Hh → R) (tg : I) (d : D) (σ : Sg) (h : Hh) : R := match tg with
  | .gv i => .nx (σ.set i d) h
  | .gt g => match itemsOf h d with
    | some ds => asgs g ds σ h
    | none => .no
  | .gx o i => (E o σ h).on fun x h2 => (E i σ h2).on fun y h3 => match setAt x y d h3 with
    | some h4 => .nx σ h4
    | none => .no
  | _ => .no
def entry (fd : Fd) (ds : List D) : Option Sg := match Nat.beq ds.length fd.ar && Nat.ble fd.ar fd.sz with
  | true => some (ds ++ List.replicate (fd.sz - fd.ar) .una)
  | false => none
section
variable (P : Pg)
def ev : Nat → I → Sg → Hh → R
  | 0, _, _, _ => .no
  | n + 1, e, σ, h => match e with
    | .var i => getV σ i h
    | .cst d => .ok d h
    | .glb k => match P.cs[k]? with
      | some d => .ok d h
      | none => .no
    | .gdx k e => (ev n e σ h).on fun x h1 => match x with
      | .int i => match P.ds[k]? with
        | some ks => match lookI i ks with
          | some d => .ok d h1
          | none => .no
        | none => .no
      | _ => .no
    | .dct => .ok .emp h
    | .tup a => (ev n a σ h).ons fun ds h1 => match Nat.ble ds.length line with
      | true => .ok (mkT ds) h1
      | false => .no
    | .lst a => (ev n a σ h).ons fun ds h1 => match Nat.ble ds.length line with
      | true => newL h1 ds
      | false => .no
    | .anil => .oks [] h
    | .acons e r => (ev n e σ h).on fun d h1 => (ev n r σ h1).ons fun ds h2 => .oks (d :: ds) h2
    | .astar e r => (ev n e σ h).on fun d h1 => match itemsOf h1 d with
      | some es => (ev n r σ h1).ons fun ds h2 => .oks (es ++ ds) h2
      | none => .no
    | .bin o a b => (ev n a σ h).on fun x h1 => (ev n b σ h1).on fun y h2 => binop o x y h2
    | .neg a => (ev n a σ h).on fun x h1 => match x with
      | .int i => .ok (.int (-i)) h1
      | _ => .no
    | .cmp o a b => (ev n a σ h).on fun x h1 => (ev n b σ h1).on fun y h2 => cmpop o x y h2
    | .chn o p a b c => (ev n a σ h).on fun x h1 => (ev n b σ h1).on fun y h2 => (cmpop o x y h2).onb fun k h3 => match k with
      | true => (ev n c σ h3).on fun z h4 => cmpop p y z h4
      | false => .ok (.bl false) h3
    | .and a b => (ev n a σ h).on fun x h1 => match x with
      | .bl true => ev n b σ h1
      | .bl false => .ok (.bl false) h1
      | _ => .no
    | .or a b => (ev n a σ h).on fun x h1 => match x with
      | .bl false => ev n b σ h1
      | .bl true => .ok (.bl true) h1
      | _ => .no
    | .one a => ev n a σ h
    | .tv a => ev n a σ h
    | .po a => (ev n a σ h).on fun d h1 => match d with
      | .int i => .ok (.int i) h1
      | _ => .no
    | .not a => (ev n a σ h).onb fun b h1 => .ok (.bl !b) h1
    | .ife t a b => (ev n t σ h).onb fun k h1 => match k with
      | true => ev n a σ h1
      | false => ev n b σ h1
    | .ix a i => (ev n a σ h).on fun x h1 => (ev n i σ h1).on fun y h2 => index x y h2
    | .sl a lo hi => (ev n a σ h).on fun x h1 => (ev n lo σ h1).on fun l h2 => (ev n hi σ h2).on fun u h3 => slice x l u h3
    | .pno => .ok .non h
    | .cal f a => (ev n a σ h).ons fun ds h1 => match P.fs[f]? with
      | some fd => match entry fd ds with
        | some σ' => called (ev n fd.body σ' h1) h1.length
        | none => .no
      | none => .no
    | .blt b a => (ev n a σ h).ons fun ds h1 => builtin b ds h1
    | .isi b e => (ev n e σ h).on fun d h1 => builtin b [d] h1
    | .app o e => (ev n o σ h).on fun x h1 => (ev n e σ h1).on fun y h2 => match x with
      | .ptr a => match h2[a]? with
        | some ds => match Nat.blt ds.length line && !isPtr y with
          | true => .ok .non (h2.set a (ds ++ [y]))
          | false => .no
        | none => .no
      | _ => .no
    | .pop o => (ev n o σ h).on fun x h1 => match x with
      | .ptr a => match h1[a]? with
        | some ds => match ds.getLast? with
          | some d => .ok d (h1.set a ds.dropLast)
          | none => .no
        | none => .no
      | _ => .no
    | .idx o e => (ev n o σ h).on fun x h1 => (ev n e σ h1).on fun y h2 => match x, y with
      | .tup ds, .int z => match intsD ds with
        | some is => match idxO z is with
          | some i => .ok (.int (i : Int)) h2
          | none => .no
        | none => .no
      | _, _ => .no
    | .stp a e => (ev n a σ h).on fun x h1 => (ev n e σ h1).on fun y h2 => stepAt x y h2
    | .lset a => (ev n a σ h).on fun x h1 => lsetAt x h1
    | .frz a => (ev n a σ h).on fun x h1 => frzAt h.length x h1
    | .fst0 a => (ev n a σ h).on fun x h1 => match itemsOf h1 x with
      | some ds => match intsD ds with
        | some is => .ok (fstD is) h1
        | none => .no
      | none => .no
    | .lc2 tg it tg1 it1 ifs e own own1 => (ev n it σ h).onsr fun s h1 =>
      (loopB s (fun d acc h2 => match asg (ev n) tg d (wipeD σ own) h2 with
        | .nx σ2 h3 => (ev n it1 σ2 h3).onsr fun s1 h4 => loopA s1 (fun d1 h5 => match asg (ev n) tg1 d1 (wipeD σ2 own1) h5 with
          | .nx σ3 h6 => (ev n ifs σ3 h6).onb fun k h7 => match k with
            | true => (ev n e σ3 h7).on fun x h8 => .ok x h8
            | false => .nx σ3 h7
          | _ => .no) turns 0 acc h4
        | _ => .no) turns 0 [] h1).ons fun ds h2 => newL h2 ds
    | .ext o e => (ev n o σ h).on fun x h1 => (ev n e σ h1).on fun y h2 => match x, y with
      | .ptr a, .ptr b => match h2[a]?, h2[b]? with
        | some ds, some es => match es.any isPtr with
          | true => .no
          | false => match catO ds es with
            | some fs => .ok .non (h2.set a fs)
            | none => .no
        | _, _ => .no
      | _, _ => .no
    | .lc tg it ifs e own => (ev n it σ h).onsr fun s h1 =>
      (loopC s (fun d h2 => match asg (ev n) tg d (wipeD σ own) h2 with
        | .nx σ2 h3 => (ev n ifs σ2 h3).onb fun k h4 => match k with
          | true => (ev n e σ2 h4).on fun x h5 => .ok x h5
          | false => .nx σ2 h4
        | _ => .no) turns 0 [] h1).ons fun ds h2 => newL h2 ds
    | .iS e => (ev n e σ h).on fun x h1 => match itemsOf h1 x with
      | some _ => .osr (.sq x) h1
      | none => .no
    | .iR a => (ev n a σ h).ons fun ds h1 => match ds with
      | [.int j] => match Nat.blt j.natAbs (2 ^ 60) with
        | true => .osr (.rg 0 1 j.toNat) h1
        | false => .no
      | [.int i, .int j] => match Nat.blt i.natAbs (2 ^ 60) && Nat.blt j.natAbs (2 ^ 60) with
        | true => .osr (.rg i 1 (j - i).toNat) h1
        | false => .no
      | [.int i, .int j, .int c] => match Nat.blt i.natAbs (2 ^ 60) && Nat.blt j.natAbs (2 ^ 60) && decide (c = -1) with
        | true => .osr (.rg i (-1) (i - j).toNat) h1
        | false => .no
      | _ => .no
    | .iE e => (ev n e σ h).on fun x h1 => match itemsOf h1 x with
      | some _ => .osr (.en x) h1
      | none => .no
    | .iZ a b => (ev n a σ h).on fun x h1 => (ev n b σ h1).on fun y h2 => match itemsOf h2 x, itemsOf h2 y with
      | some _, some _ => .osr (.zp x y) h2
      | _, _ => .no
    | .sAsg g e => (ev n e σ h).on fun d h1 => asg (ev n) g d σ h1
    | .sPar2 i j a b => (ev n a σ h).on fun x h1 => (ev n b σ h1).on fun y h2 => .nx ((σ.set i x).set j y) h2
    | .sPar3 i j k a b c => (ev n a σ h).on fun x h1 => (ev n b σ h1).on fun y h2 => (ev n c σ h2).on fun z h3 => .nx (((σ.set i x).set j y).set k z) h3
    | .sAug i o e => (getV σ i h).on fun x h1 => (ev n e σ h1).on fun y h2 => (augop o x y h2).on fun z h3 => .nx (σ.set i z) h3
    | .sAugX o i op e => (ev n o σ h).on fun x h1 => (ev n i σ h1).on fun y h2 => match x with
      | .ptr a => (index (.ptr a) y h2).on fun u h3 => (ev n e σ h3).on fun v h4 => (augop op u v h4).on fun z h5 => match setAt (.ptr a) y z h5 with
        | some h6 => .nx σ h6
        | none => .no
      | _ => .no
    | .sExp e => (ev n e σ h).on fun _ h1 => .nx σ h1
    | .sFor tg it b => (ev n it σ h).onsr fun s h1 => loopF s (fun d σ1 h2 => (asg (ev n) tg d σ1 h2).onx fun σ2 h3 => ev n b σ2 h3) turns 0 σ h1
    | .sWh t b => loopW (fun σ1 h1 => ev n t σ1 h1) (fun σ1 h1 => ev n b σ1 h1) turns σ h
    | .sIf t a b => (ev n t σ h).onb fun k h1 => match k with
      | true => ev n a σ h1
      | false => ev n b σ h1
    | .sRet e => (ev n e σ h).on fun d h1 => .rt d h1
    | .sRetN => .rt .non h
    | .sNever => .no
    | .sPass => .nx σ h
    | .sBrk => .bk σ h
    | .sCnt => .ct σ h
    | .sNil => .nx σ h
    | .sCons s r => (ev n s σ h).onx fun σ1 h1 => ev n r σ1 h1
    | _ => .no
/-- a call of a def with values -/
def callF (n : Nat) (f : Nat) (ds : List D) (h : Hh) : R := match P.fs[f]? with
  | some fd => match entry fd ds with
    | some σ' => called (ev P n fd.body σ' h) h.length
    | none => .no
  | none => .no
end
end Ev
-- EvSq
set_option maxHeartbeats 4000000
set_option autoImplicit false
/-! tuples that are known to have no dict -/
namespace Ev
open PySem PySem.Spec PyProof.Rows L2
def SqN (K : PySem.W.Frag) (H : Hp) (a : Addr) (xs : List V) : Prop :=
  (∃ o, H a = some (.frz o (.tup xs)) ∧ o.dict = none) ∨
    ∃ (o : Obj) (its : Array Value) (n : Nat), K.lookup a = some o ∧ o.cls = .type "tuple" ∧ o.dict = none ∧ o.data = .seq its n ∧ its.size ≤ sizeLine ∧ Vals xs its.toList
theorem SqN.t {K : PySem.W.Frag} {H : Hp} {a : Addr} {xs : List V} (h : SqN K H a xs) : SqT K H a xs := by
  rcases h with ⟨o, h, _⟩ | ⟨o, its, n, h1, h2, _, h3⟩
  · exact .inl (.inr ⟨o, h⟩)
  · exact .inr ⟨o, its, n, h1, h2, h3⟩
theorem SqN.new {K : PySem.W.Frag} {H : Hp} {p : Addr} {xs : List V} {o : Obj} (d : o.dict = none) : SqN K (upd H p (.frz o (.tup xs))) p xs := .inl ⟨o, upd_same, d⟩
/-- what stands behind a new tuple -/
def NewT (xs : List V) (H : Hp) (Q : VK) : Prop := ∀ p o, H p = none → o.dict = none → Q (.ref p) (upd H p (.frz o (.tup xs)))
section
variable {X : Cx}
theorem newT_ok {pins : List (Addr × Obj)} {σ : L2.St} {H : Hp} {s : Shared} {Q : VK} {xs : List V} {us : List Value} (I : Inv X pins σ H s) (h : NewT xs H Q) (hz : xs.length ≤ sizeLine) (r : Vals xs us) :
    EP X pins σ Q (.ref s.heap.objs.size) { s with heap := s.heap.push { cls := .type "tuple", data := .seq us.toArray } } :=
  ⟨.ref s.heap.objs.size, _, I.laid (t' := s.toks) (o := .frz { cls := .type "tuple", data := .seq us.toArray } (.tup xs)) (fun b ob q => Heap.get?_push_of_some _ q) (Nat.le_refl _)
    (show ObjOk X.prog X.w _ _ _ (.frz { cls := .type "tuple", data := .seq us.toArray } (.tup xs)) from ⟨Heap.get?_push_size _ rfl, hz, us, r, IsTup.new _ _⟩), rfl, h _ _ (I.hok.fresh (Nat.le_refl _)) rfl⟩
def tTupN (t : TA) : TE := fun σ H Q => t σ H fun xs H1 => xs.length ≤ sizeLine ∧ NewT xs H1 Q
theorem pe_tupN {es : List Expr} {t : TA} {pos : Pos} {x1 : Nat} (h : PA X es t) : PE X (.Tuple es x1 pos) (tTupN t) := by
  refine ⟨fun pins s σ H Q I hq => ?_⟩
  exact wpAny_Tuple_spliced (thn (h.run pos pins s σ H _ I hq) fun us s1 ⟨xs, H1, I1, r, z, q⟩ => ⟨by rw [← r.length]; exact z, newT_ok I1 q z r⟩)
/-- t + u -/
def rCatN (K : PySem.W.Frag) : R2 := fun x y H Q => ∃ a b xs ys, x = .ref a ∧ y = .ref b ∧ SqT K H a xs ∧ SqT K H b ys ∧ xs.length + ys.length ≤ sizeLine ∧
  (xs = [] → Q (.ref b) H) ∧ (xs ≠ [] → ys = [] → Q (.ref a) H) ∧ (xs ≠ [] → ys ≠ [] → NewT (xs ++ ys) H Q)
theorem op_catN : OpR X (binaryOp .Add) (rCatN X.K) := by
  intro pins s σ H x y v u Q I rx ry h
  obtain ⟨a, b, xs, ys, rfl, rfl, ha, hb, hz, q0, q1, q2⟩ := h
  cases rx
  cases ry
  obtain ⟨its, r1, p1, _⟩ := I.tuple ha
  obtain ⟨its2, r2, p2, _⟩ := I.tuple hb
  by_cases hx : xs = []
  · subst hx
    cases r1
    exact cat_tup0 p1 p2 ⟨.ref b, H, I, rfl, q0 rfl⟩
  · refine HT.cat_tup p1 p2 (fun z => hx (r1.nil_iff.mp z)) (fun z => ⟨.ref a, H, I, rfl, q1 hx (r2.nil_iff.mp z)⟩) (fun z => ?_) (by rw [← r1.length, ← r2.length]; exact hz)
    exact newT_ok I (q2 hx fun w => z (r2.nil_iff.mpr w)) (by rw [List.length_append]; exact hz) (r1.append r2)
/-- t[lo:hi] -/
def rSlN (K : PySem.W.Frag) : V → Option Int → Option Int → Hp → VK → Prop := fun x lo hi H Q => ∃ a xs, x = .ref a ∧ SqT K H a xs ∧
  (HT.sIx xs.length 0 lo = 0 ∧ HT.sIx xs.length xs.length hi = xs.length → Q (.ref a) H) ∧ (¬ (HT.sIx xs.length 0 lo = 0 ∧ HT.sIx xs.length xs.length hi = xs.length) → NewT (cutV xs lo hi) H Q)
theorem sl_tupN : SlR X (rSlN X.K) := by
  intro pins s σ H x v vl vu lo hi sl Q I rx hs pl pu h
  obtain ⟨a, xs, rfl, hx, q1, q2⟩ := h
  cases rx
  obtain ⟨its, r, ht, hz⟩ := I.tuple hx
  have hlen : its.toArray.size = xs.length := by rw [List.size_toArray]; exact r.length.symm
  refine ⟨"tuple", _, PyProof.Rows.slot_tuple_getitem.lookup, ht.typeIs, ?_⟩
  by_cases hw : HT.sIx xs.length 0 lo = 0 ∧ HT.sIx xs.length xs.length hi = xs.length
  · exact getItem_tuple_whole ht hs pl pu (by rw [hlen]; exact hw) ⟨.ref a, H, I, rfl, q1 hw⟩
  · refine HT.getItem_tuple_cut ht hs pl pu (by rw [hlen]; exact hw) ?_ (by rw [hlen]; exact hz)
    rw [hlen]
    exact newT_ok I (q2 hw) (Nat.le_trans (cutV_length xs lo hi) hz) ((r.drop (HT.sIx xs.length 0 lo)).take (HT.sIx xs.length xs.length hi - HT.sIx xs.length 0 lo))
/-- tuple(x) -/
theorem call_tupleN : CallR X (.type "tuple") (fun xs H Q => ∃ p ys, xs = [.ref p] ∧ ((SqL X.K H p ys ∧ NewT ys H Q) ∨ (SqT X.K H p ys ∧ Q (.ref p) H))) := by
  intro pins s σ H xs us Q I r h
  obtain ⟨p, ys, rfl, h⟩ := h
  obtain ⟨u, rfl, rx⟩ := vals1 r
  cases rx
  rcases h with ⟨hq, q⟩ | ⟨hq, q⟩
  · obtain ⟨its, r', pl, hz⟩ := I.list hq
    have hlen := r'.length
    refine call_tuple_list pl.isList (fun h' kp => ?_) (by simp only [List.size_toArray] <;> omega)
    have I1 : Inv X pins σ H { s with heap := h' } := I.kept (t' := s.toks) kp
    exact newT_ok I1 q hz r'
  · obtain ⟨its, r', pl, hz⟩ := I.tuple hq
    exact call_tuple_same pl ⟨.ref p, H, I, rfl, q⟩
end
end Ev
-- EvB
namespace Ev
open PySem PySem.Spec PyProof.Rows L2
/-- what a value is read against: the written part, where the defs stand -/
structure G where
  K : PySem.W.Frag
  fa : Nat → Addr
  tb : List (Addr × Addr)
def FrL (K : PySem.W.Frag) (H : Hp) (a : Addr) (xs : List V) : Prop :=
  (∃ o, H a = some (.frz o (.lst xs))) ∨
    ∃ (o : Obj) (its : Array Value) (n : Nat), K.lookup a = some o ∧ o.cls = .type "list" ∧ o.dict = none ∧ o.data = .seq its n ∧ its.size ≤ sizeLine ∧ Vals xs its.toList
theorem FrL.seq {K : PySem.W.Frag} {H : Hp} {a : Addr} {xs : List V} (h : FrL K H a xs) : SqL K H a xs := by
  rcases h with ⟨o, h⟩ | h
  · exact .inl (.inr ⟨o, h⟩)
  · exact .inr h
mutual
inductive RepP (g : G) (H : Hp) : D → V → Prop
  | non : RepP g H .non .non
  | bl (b : Bool) : RepP g H (.bl b) (.bl b)
  | int (i : Int) : RepP g H (.int i) (.int i)
  | str (x : Str) : RepP g H (.str x) (.str x)
  | ty (n : String) : RepP g H (.ty n) (.ty n)
  | tup {a : Addr} {vs : List V} {ds : List D} : SqN g.K H a vs → RepPs g H ds vs → RepP g H (.tup ds) (.ref a)
  | frl {a : Addr} {vs : List V} {ds : List D} : FrL g.K H a vs → RepPs g H ds vs → RepP g H (.frl ds) (.ref a)
  | fn (f : Nat) : RepP g H (.fn f) (.ref (g.fa f))
  | emp {a : Addr} : H a = some (.dK []) → RepP g H .emp (.ref a)
inductive RepPs (g : G) (H : Hp) : List D → List V → Prop
  | nil : RepPs g H [] []
  | cons {d : D} {v : V} {ds : List D} {vs : List V} : RepP g H d v → RepPs g H ds vs → RepPs g H (d :: ds) (v :: vs)
end
mutual
inductive Rep (g : G) (ρ : List Addr) (H : Hp) : D → V → Prop
  | pure {d : D} {v : V} : RepP g H d v → Rep g ρ H d v
  | ptr {n : Nat} {p : Addr} : ρ[n]? = some p → Rep g ρ H (.ptr n) (.ref p)
  | mtp {a : Addr} {vs : List V} {ds : List D} : SqN g.K H a vs → Reps g ρ H ds vs → Rep g ρ H (.mtp ds) (.ref a)
inductive Reps (g : G) (ρ : List Addr) (H : Hp) : List D → List V → Prop
  | nil : Reps g ρ H [] []
  | cons {d : D} {v : V} {ds : List D} {vs : List V} : Rep g ρ H d v → Reps g ρ H ds vs → Reps g ρ H (d :: ds) (v :: vs)
end
structure MonoH (g : G) (H H' : Hp) : Prop where
  sq : ∀ (a : Addr) (xs : List V), SqN g.K H a xs → SqN g.K H' a xs
  fr : ∀ (a : Addr) (xs : List V), FrL g.K H a xs → FrL g.K H' a xs
  dk : ∀ (a : Addr), H a = some (.dK []) → H' a = some (.dK [])
  tb : ∀ q ∈ g.tb, GxR.TabG H q.2 → GxR.TabG H' q.2
structure Mono (g : G) (ρ : List Addr) (H : Hp) (ρ' : List Addr) (H' : Hp) : Prop where
  h : MonoH g H H'
  pf : ∀ (n : Nat) (p : Addr), ρ[n]? = some p → ρ'[n]? = some p
  ou : ∀ (p : Addr) (o : HO), H p = some o → (∀ q, o ≠ .tbl q) → p ∉ ρ → H' p = some o ∧ p ∉ ρ'
/-- what a source needs -/
structure Mon0 (g : G) (ρ : List Addr) (H : Hp) (ρ' : List Addr) (H' : Hp) : Prop where
  h : MonoH g H H'
  pf : ∀ (n : Nat) (p : Addr), ρ[n]? = some p → ρ'[n]? = some p
theorem Mono.m0 {g : G} {ρ ρ' : List Addr} {H H' : Hp} (m : Mono g ρ H ρ' H') : Mon0 g ρ H ρ' H' := ⟨m.h, m.pf⟩
theorem Mono.refl (g : G) (ρ : List Addr) (H : Hp) : Mono g ρ H ρ H := ⟨⟨fun _ _ h => h, fun _ _ h => h, fun _ h => h, fun _ _ h => h⟩, fun _ _ h => h, fun _ _ h _ n => ⟨h, n⟩⟩
theorem MonoH.trans {g : G} {H H1 H2 : Hp} (a : MonoH g H H1) (b : MonoH g H1 H2) : MonoH g H H2 :=
  ⟨fun x y h => b.sq x y (a.sq x y h), fun x y h => b.fr x y (a.fr x y h), fun x h => b.dk x (a.dk x h), fun q hq h => b.tb q hq (a.tb q hq h)⟩
theorem Mon0.trans {g : G} {ρ ρ1 ρ2 : List Addr} {H H1 H2 : Hp} (a : Mon0 g ρ H ρ1 H1) (b : Mon0 g ρ1 H1 ρ2 H2) : Mon0 g ρ H ρ2 H2 := ⟨a.h.trans b.h, fun x y h => b.pf x y (a.pf x y h)⟩
theorem Mono.trans {g : G} {ρ ρ1 ρ2 : List Addr} {H H1 H2 : Hp} (a : Mono g ρ H ρ1 H1) (b : Mono g ρ1 H1 ρ2 H2) : Mono g ρ H ρ2 H2 :=
  ⟨a.h.trans b.h, fun x y h => b.pf x y (a.pf x y h), fun p o h t n => let ⟨h1, n1⟩ := a.ou p o h t n; b.ou p o h1 t n1⟩
section
variable {g : G} {ρ ρ' : List Addr} {H H' : Hp}
mutual
theorem RepP.mono (m : MonoH g H H') : ∀ {d : D} {v : V}, RepP g H d v → RepP g H' d v
  | _, _, .non => .non
  | _, _, .bl b => .bl b
  | _, _, .int i => .int i
  | _, _, .str x => .str x
  | _, _, .ty n => .ty n
  | _, _, .tup s r => .tup (m.sq _ _ s) (RepPs.mono m r)
  | _, _, .frl s r => .frl (m.fr _ _ s) (RepPs.mono m r)
  | _, _, .fn f => .fn f
  | _, _, .emp h => .emp (m.dk _ h)
theorem RepPs.mono (m : MonoH g H H') : ∀ {d : List D} {v : List V}, RepPs g H d v → RepPs g H' d v
  | _, _, .nil => .nil
  | _, _, .cons r s => .cons (RepP.mono m r) (RepPs.mono m s)
end
mutual
theorem Rep.mono0 (m : MonoH g H H') (pf : ∀ (n : Nat) (p : Addr), ρ[n]? = some p → ρ'[n]? = some p) : ∀ {d : D} {v : V}, Rep g ρ H d v → Rep g ρ' H' d v
  | _, _, .pure r => .pure (r.mono m)
  | _, _, .ptr e => .ptr (pf _ _ e)
  | _, _, .mtp s r => .mtp (m.sq _ _ s) (Reps.mono0 m pf r)
theorem Reps.mono0 (m : MonoH g H H') (pf : ∀ (n : Nat) (p : Addr), ρ[n]? = some p → ρ'[n]? = some p) : ∀ {d : List D} {v : List V}, Reps g ρ H d v → Reps g ρ' H' d v
  | _, _, .nil => .nil
  | _, _, .cons r s => .cons (Rep.mono0 m pf r) (Reps.mono0 m pf s)
end
theorem Rep.mono (m : Mono g ρ H ρ' H') {d : D} {v : V} (r : Rep g ρ H d v) : Rep g ρ' H' d v := r.mono0 m.h m.pf
theorem Reps.mono (m : Mono g ρ H ρ' H') {d : List D} {v : List V} (r : Reps g ρ H d v) : Reps g ρ' H' d v := r.mono0 m.h m.pf
theorem Rep.monoH (m : MonoH g H H') {d : D} {v : V} (r : Rep g ρ H d v) : Rep g ρ H' d v := r.mono0 m fun _ _ h => h
theorem Reps.monoH (m : MonoH g H H') {d : List D} {v : List V} (r : Reps g ρ H d v) : Reps g ρ H' d v := r.mono0 m fun _ _ h => h
theorem RepPs.reps : ∀ {ds : List D} {vs : List V}, RepPs g H ds vs → Reps g ρ H ds vs
  | _, _, .nil => .nil
  | _, _, .cons r s => .cons (.pure r) (RepPs.reps s)
theorem Rep.toP {d : D} {v : V} (h : Rep g ρ H d v) (n : isPtr d = false) : RepP g H d v := by
  cases h with
  | pure r => exact r
  | ptr e => cases n
  | mtp s r => cases n
theorem Reps.toP : ∀ {ds : List D} {vs : List V}, Reps g ρ H ds vs → ds.any isPtr = false → RepPs g H ds vs
  | _, _, .nil, _ => .nil
  | _, _, .cons r s, n => by
    rw [List.any_cons, Bool.or_eq_false_iff] at n
    exact .cons (r.toP n.1) (Reps.toP s n.2)
theorem Reps.length : ∀ {ds : List D} {vs : List V}, Reps g ρ H ds vs → ds.length = vs.length
  | _, _, .nil => rfl
  | _, _, .cons _ s => congrArg Nat.succ (Reps.length s)
theorem Reps.get : ∀ {ds : List D} {vs : List V} {i : Nat} {d : D}, Reps g ρ H ds vs → ds[i]? = some d → ∃ v, vs[i]? = some v ∧ Rep g ρ H d v
  | _, _, _, _, .nil, e => by simp at e
  | _, _, 0, _, .cons r _, e => by simp at e; subst e; exact ⟨_, rfl, r⟩
  | _, _, i + 1, d, .cons _ s, e => by
    obtain ⟨v, h1, h2⟩ := Reps.get (i := i) (d := d) s (by simpa using e)
    exact ⟨v, by simpa using h1, h2⟩
theorem Reps.getv : ∀ {ds : List D} {vs : List V} {i : Nat} {v : V}, Reps g ρ H ds vs → vs[i]? = some v → ∃ d, ds[i]? = some d ∧ Rep g ρ H d v
  | _, _, _, _, .nil, e => by simp at e
  | _, _, 0, _, .cons r _, e => by simp at e; subst e; exact ⟨_, rfl, r⟩
  | _, _, i + 1, v, .cons _ s, e => by
    obtain ⟨d, h1, h2⟩ := Reps.getv (i := i) (v := v) s (by simpa using e)
    exact ⟨d, by simpa using h1, h2⟩
theorem Reps.append : ∀ {ds es : List D} {vs ws : List V}, Reps g ρ H ds vs → Reps g ρ H es ws → Reps g ρ H (ds ++ es) (vs ++ ws)
  | _, _, _, _, .nil, t => t
  | _, _, _, _, .cons r s, t => .cons r (Reps.append s t)
theorem Reps.set {d : D} {v : V} (r : Rep g ρ H d v) : ∀ {ds : List D} {vs : List V} (i : Nat), Reps g ρ H ds vs → Reps g ρ H (ds.set i d) (vs.set i v)
  | _, _, _, .nil => .nil
  | _, _, 0, .cons _ t => .cons r t
  | _, _, i + 1, .cons q t => .cons q (Reps.set r i t)
theorem Reps.take : ∀ {ds : List D} {vs : List V} (n : Nat), Reps g ρ H ds vs → Reps g ρ H (ds.take n) (vs.take n)
  | _, _, 0, _ => .nil
  | _, _, _ + 1, .nil => .nil
  | _, _, n + 1, .cons r t => .cons r (Reps.take n t)
theorem Reps.drop : ∀ {ds : List D} {vs : List V} (n : Nat), Reps g ρ H ds vs → Reps g ρ H (ds.drop n) (vs.drop n)
  | _, _, 0, r => r
  | _, _, _ + 1, .nil => .nil
  | _, _, n + 1, .cons _ t => Reps.drop n t
theorem Reps.dropLast {ds : List D} {vs : List V} (r : Reps g ρ H ds vs) : Reps g ρ H ds.dropLast vs.dropLast := by
  rw [List.dropLast_eq_take, List.dropLast_eq_take, r.length]
  exact r.take _
theorem Reps.rep {ds : List D} {vs : List V} (r : Reps g ρ H ds vs) : ∀ n : Nat, Reps g ρ H (List.replicate n ds).flatten (List.replicate n vs).flatten
  | 0 => .nil
  | n + 1 => by
    rw [List.replicate_succ, List.replicate_succ, List.flatten_cons, List.flatten_cons]
    exact r.append (Reps.rep r n)
structure Sim (g : G) (ρ : List Addr) (h : Hh) (H : Hp) : Prop where
  len : ρ.length = h.length
  nd : ρ.Nodup
  at_ : ∀ (a : Nat) (ds : List D), h[a]? = some ds → ∃ (p : Addr) (vs : List V), ρ[a]? = some p ∧ H p = some (.lst vs) ∧ Reps g (ρ.take a) H ds vs
  tb : ∀ q ∈ g.tb, GxR.TabG H q.2
theorem take_pf {α : Type} (ρ : List α) (a : Nat) : ∀ (n : Nat) (p : α), (ρ.take a)[n]? = some p → ρ[n]? = some p := fun n p e => by
  have h := (List.getElem?_eq_some_iff.mp e).1
  rw [List.length_take] at h
  rw [List.getElem?_take_of_lt (by omega)] at e
  exact e
theorem Sim.get {h : Hh} (s : Sim g ρ h H) {a : Nat} {ds : List D} (e : h[a]? = some ds) {p : Addr} (hp : ρ[a]? = some p) : ∃ vs : List V, H p = some (.lst vs) ∧ Reps g ρ H ds vs := by
  obtain ⟨q, vs, h1, h2, h3⟩ := s.at_ a ds e
  rw [hp] at h1
  cases h1
  exact ⟨vs, h2, h3.mono0 (Mono.refl g ρ H).h (take_pf ρ a)⟩
structure EnvR (g : G) (ρ : List Addr) (H : Hp) (sg : Sg) (σ : L2.St) : Prop where
  len : sg.length = σ.length
  at_ : ∀ (i : Nat) (d : D), sg[i]? = some d → isUna d = false → ∃ v, σ[i]? = some (some v) ∧ Rep g ρ H d v
theorem EnvR.mono {sg : Sg} {σ : L2.St} (m : Mono g ρ H ρ' H') (e : EnvR g ρ H sg σ) : EnvR g ρ' H' sg σ :=
  ⟨e.len, fun i d h u => let ⟨v, h1, h2⟩ := e.at_ i d h u; ⟨v, h1, h2.mono m⟩⟩
theorem EnvR.mono0 {sg : Sg} {σ : L2.St} (m : Mon0 g ρ H ρ' H') (e : EnvR g ρ H sg σ) : EnvR g ρ' H' sg σ :=
  ⟨e.len, fun i d h u => let ⟨v, h1, h2⟩ := e.at_ i d h u; ⟨v, h1, h2.mono0 m.h m.pf⟩⟩
theorem Rep.notUna {d : D} {v : V} (r : Rep g ρ H d v) : isUna d = false := by
  cases r with
  | pure r => cases r <;> rfl
  | ptr e => rfl
  | mtp s r => rfl
theorem EnvR.set {sg : Sg} {σ : L2.St} {i : Nat} {d : D} {v : V} (e : EnvR g ρ H sg σ) (r : Rep g ρ H d v) : EnvR g ρ H (sg.set i d) (σ.set i (some v)) := by
  refine ⟨by rw [List.length_set, List.length_set]; exact e.len, fun j c h u => ?_⟩
  by_cases hj : j = i
  · subst hj
    by_cases hl : j < sg.length
    · rw [List.getElem?_set_self hl] at h
      cases h
      exact ⟨v, by rw [List.getElem?_set_self (by rw [← e.len]; exact hl)], r⟩
    · rw [List.getElem?_eq_none (by simpa using hl)] at h
      cases h
  · rw [List.getElem?_set_ne (Ne.symm hj)] at h
    obtain ⟨w, h1, h2⟩ := e.at_ j c h u
    exact ⟨w, by rw [List.getElem?_set_ne (Ne.symm hj)]; exact h1, h2⟩
/-- a new object that the program's data do not name -/
theorem mono_new {p : Addr} {o : HO} (n : H p = none) : MonoH g H (upd H p o) := by
  refine ⟨fun a xs h => ?_, fun a xs h => ?_, fun a h => by rw [upd_ne (ne_of_none h n)]; exact h, fun q _ ⟨ps, h, t⟩ => ⟨ps, by rw [upd_ne (ne_of_none h n)]; exact h, t⟩⟩
  · rcases h with h | h
    · obtain ⟨ob, h, hd⟩ := h
      exact .inl ⟨ob, by rw [upd_ne (ne_of_none h n)]; exact h, hd⟩
    · exact .inr h
  · rcases h with ⟨ob, h⟩ | h
    · exact .inl ⟨ob, by rw [upd_ne (ne_of_none h n)]; exact h⟩
    · exact .inr h
theorem Mono.new {p : Addr} {o : HO} (n : H p = none) : Mono g ρ H ρ (upd H p o) := ⟨mono_new n, fun _ _ h => h, fun q _ e _ nq => ⟨by rw [upd_ne (ne_of_none e n)]; exact e, nq⟩⟩
theorem mono_lst {p : Addr} {vs ws : List V} (n : H p = some (.lst vs)) : MonoH g H (upd H p (.lst ws)) := by
  have ne : ∀ {a : Addr} {u : HO}, H a = some u → (∀ zs, u ≠ .lst zs) → a ≠ p := fun h d => fun e => by
    subst e
    rw [n] at h
    cases h
    exact d vs rfl
  refine ⟨fun a xs h => ?_, fun a xs h => ?_, fun a h => by rw [upd_ne (ne h (fun _ z => by cases z))]; exact h, fun q _ ⟨ps, h, t⟩ => ⟨ps, by rw [upd_ne (ne h (fun _ z => by cases z))]; exact h, t⟩⟩
  · rcases h with h | h
    · obtain ⟨ob, h, hd⟩ := h
      exact .inl ⟨ob, by rw [upd_ne (ne h (fun _ z => by cases z))]; exact h, hd⟩
    · exact .inr h
  · rcases h with ⟨ob, h⟩ | h
    · exact .inl ⟨ob, by rw [upd_ne (ne h (fun _ z => by cases z))]; exact h⟩
    · exact .inr h
theorem Sim.grow {h : Hh} (s : Sim g ρ h H) (m : MonoH g H H') (k : ∀ p ∈ ρ, ∀ vs, H p = some (.lst vs) → H' p = some (.lst vs)) : Sim g ρ h H' :=
  ⟨s.len, s.nd, fun a ds e => let ⟨p, vs, h1, h2, h3⟩ := s.at_ a ds e; ⟨p, vs, h1, k p (List.mem_of_getElem? h1) vs h2, h3.monoH m⟩, fun q hq => m.tb q hq (s.tb q hq)⟩
/-- a new object beside -/
theorem Sim.new {h : Hh} {p : Addr} {o : HO} (s : Sim g ρ h H) (n : H p = none) : Sim g ρ h (upd H p o) :=
  s.grow (mono_new n) fun q _ vs e => by rw [upd_ne (ne_of_none e n)]; exact e
/-- a new list of the heap -/
theorem Sim.push {h : Hh} {p : Addr} {vs : List V} {ds : List D} (s : Sim g ρ h H) (n : H p = none) (r : Reps g ρ H ds vs) :
    Sim g (ρ ++ [p]) (h ++ [ds]) (upd H p (.lst vs)) ∧ Mono g ρ H (ρ ++ [p]) (upd H p (.lst vs)) ∧ (ρ ++ [p])[h.length]? = some p := by
  have hp : p ∉ ρ := fun hm => by
    obtain ⟨a, ha⟩ := List.getElem?_of_mem hm
    have hl : a < h.length := by rw [← s.len]; exact (List.getElem?_eq_some_iff.mp ha).1
    obtain ⟨q, ws, h1, h2, _⟩ := s.at_ a h[a] (by simp [hl])
    rw [ha] at h1
    cases h1
    rw [n] at h2
    cases h2
  have m0 : MonoH g H (upd H p (.lst vs)) := mono_new n
  refine ⟨⟨by simp [s.len], List.nodup_append.mpr ⟨s.nd, by simp, fun a ha b hb => by simp at hb; subst hb; exact fun e => hp (e ▸ ha)⟩, fun a ds' e => ?_, fun q hq => m0.tb q hq (s.tb q hq)⟩,
    ⟨m0, fun i q e => by rw [List.getElem?_append_left (List.getElem?_eq_some_iff.mp e).1]; exact e, fun q o e _ nq => ⟨by rw [upd_ne (ne_of_none e n)]; exact e, fun hm => by
      rcases List.mem_append.mp hm with hm | hm
      · exact nq hm
      · simp at hm; exact ne_of_none e n hm⟩⟩, by rw [← s.len]; simp⟩
  by_cases hl : a < h.length
  · rw [List.getElem?_append_left hl] at e
    obtain ⟨q, ws, h1, h2, h3⟩ := s.at_ a ds' e
    refine ⟨q, ws, by rw [List.getElem?_append_left (List.getElem?_eq_some_iff.mp h1).1]; exact h1, by rw [upd_ne (ne_of_none h2 n)]; exact h2, ?_⟩
    rw [List.take_append_of_le_length (by rw [s.len]; omega)]
    exact h3.monoH m0
  · have ea : a = h.length := by
      have := (List.getElem?_eq_some_iff.mp e).1
      simp at this
      omega
    subst ea
    simp at e
    subst e
    refine ⟨p, vs, by rw [← s.len]; simp, upd_same, ?_⟩
    rw [← s.len, List.take_left']
    · exact r.monoH m0
    · rfl
/-- a list that stood beside is taken in -/
theorem Sim.adopt {h : Hh} {p : Addr} {vs : List V} {ds : List D} (s : Sim g ρ h H) (n : H p = some (.lst vs)) (np : p ∉ ρ) (r : Reps g ρ H ds vs) :
    Sim g (ρ ++ [p]) (h ++ [ds]) H ∧ (ρ ++ [p])[h.length]? = some p := by
  refine ⟨⟨by simp [s.len], List.nodup_append.mpr ⟨s.nd, by simp, fun a ha b hb => by simp at hb; subst hb; exact fun e => np (e ▸ ha)⟩, fun a ds' e => ?_, s.tb⟩, by rw [← s.len]; simp⟩
  by_cases hl : a < h.length
  · rw [List.getElem?_append_left hl] at e
    obtain ⟨q, ws, h1, h2, h3⟩ := s.at_ a ds' e
    refine ⟨q, ws, by rw [List.getElem?_append_left (List.getElem?_eq_some_iff.mp h1).1]; exact h1, h2, ?_⟩
    rw [List.take_append_of_le_length (by rw [s.len]; omega)]
    exact h3
  · have ea : a = h.length := by
      have := (List.getElem?_eq_some_iff.mp e).1
      simp at this
      omega
    subst ea
    simp at e
    subst e
    refine ⟨p, vs, by rw [← s.len]; simp, n, ?_⟩
    rw [← s.len, List.take_left']
    · exact r
    · rfl
/-- a list beside is written -/
theorem Sim.beside {h : Hh} {p : Addr} {vs ws : List V} (s : Sim g ρ h H) (n : H p = some (.lst vs)) (np : p ∉ ρ) : Sim g ρ h (upd H p (.lst ws)) :=
  s.grow (mono_lst n) fun q hq us e => by rw [upd_ne (fun z : q = p => np (by rw [← z]; exact hq))]; exact e
/-- a list of the heap is written -/
theorem Sim.write {h : Hh} {p : Addr} {a : Nat} {vs ws : List V} {ds : List D} (s : Sim g ρ h H) (hp : ρ[a]? = some p) (n : H p = some (.lst vs)) (r : Reps g (ρ.take a) H ds ws) :
    Sim g ρ (h.set a ds) (upd H p (.lst ws)) ∧ Mono g ρ H ρ (upd H p (.lst ws)) := by
  have m : MonoH g H (upd H p (.lst ws)) := mono_lst n
  refine ⟨⟨by simp [s.len], s.nd, fun b ds' e => ?_, fun q hq => m.tb q hq (s.tb q hq)⟩, m, fun _ _ e => e, fun q o e _ nq => ⟨by rw [upd_ne (fun z : q = p => nq (by rw [z]; exact List.mem_of_getElem? hp))]; exact e, nq⟩⟩
  by_cases hb : b = a
  · subst hb
    have hl : b < h.length := by
      have := (List.getElem?_eq_some_iff.mp e).1
      simpa using this
    rw [List.getElem?_set_self hl] at e
    cases e
    exact ⟨p, ws, hp, upd_same, r.monoH m⟩
  · rw [List.getElem?_set_ne (Ne.symm hb)] at e
    obtain ⟨q, us, h1, h2, h3⟩ := s.at_ b ds' e
    have hq : q ≠ p := fun z => hb (by
      subst z
      have l1 := (List.getElem?_eq_some_iff.mp h1)
      have l2 := (List.getElem?_eq_some_iff.mp hp)
      exact (List.getElem_inj s.nd).mp (l1.2.trans l2.2.symm))
    exact ⟨q, us, h1, by rw [upd_ne hq]; exact h2, h3.monoH m⟩
/-- forgetting the newest lists -/
theorem Sim.take {h : Hh} (s : Sim g ρ h H) (n : Nat) : Sim g (ρ.take n) (h.take n) H := by
  refine ⟨by simp [s.len], (List.take_sublist n ρ).nodup s.nd, fun a ds e => ?_, s.tb⟩
  have ha : a < n := by
    have := (List.getElem?_eq_some_iff.mp e).1
    simp at this
    omega
  have e' : h[a]? = some ds := by rw [List.getElem?_take_of_lt ha] at e; exact e
  obtain ⟨p, vs, h1, h2, h3⟩ := s.at_ a ds e'
  refine ⟨p, vs, by rw [List.getElem?_take_of_lt ha]; exact h1, h2, ?_⟩
  rw [List.take_take, Nat.min_eq_left (Nat.le_of_lt ha)]
  exact h3
end
end Ev
-- EvC
namespace Ev
open PySem PySem.Spec PyProof.Rows L2
/-! the look at the text -/
/-- the names that the text uses -/
structure Nm where
  fs : List (Str × List Str)
  cs : List Str
  ds : List Str
  free : List Str
def visB (sc : Scope) (x : Str) : Bool := (match sc.names.lookup x with
  | some .local => true
  | some .cell => true
  | some .free => true
  | _ => false) && !decide (x = ("__debug__" : Str)) && !decide (x = ("__classdict__" : Str))
def locB (sc : Scope) (x : Str) : Bool := match sc.names.lookup x with
  | some .local => true
  | _ => false
def glB (sc : Scope) (x : Str) : Bool := (match sc.names.lookup x with
  | some .globalImplicit => true
  | _ => false) && !decide (x = ("__debug__" : Str))
def bltB (M : Nm) (sc : Scope) (x y : Str) : Bool := decide (x = y) && glB sc x && decide (x ∈ M.free)
def bopB : BOp → Operator → Bool
  | .add, .Add => true
  | .sub, .Sub => true
  | .mul, .Mult => true
  | .mod, .Mod => true
  | .fdiv, .FloorDiv => true
  | .pow, .Pow => true
  | _, _ => false
def copB : COp → CmpOp → Bool
  | .eq, .Eq => true
  | .ne, .NotEq => true
  | .lt, .Lt => true
  | .le, .LtE => true
  | .gt, .Gt => true
  | .ge, .GtE => true
  | .inn, .In => true
  | .nin, .NotIn => true
  | .isN, .Is => true
  | .notN, .IsNot => true
  | _, _ => false
/-- a comparison that may stand in a chain -/
def copI : COp → Bool
  | .lt => true
  | .le => true
  | .gt => true
  | .ge => true
  | _ => false
def biName : Bi → Str
  | .len => "len"
  | .int => "int"
  | .abs => "abs"
  | .max2 => "max"
  | .max1 => "max"
  | .min2 => "min"
  | .sum => "sum"
  | .any => "any"
  | .all => "all"
  | .tuple => "tuple"
  | .list => "list"
  | _ => "isinstance"
def isiB : Bi → Bool
  | .isIntB => true
  | .isBoolB => true
  | .isTupB => true
  | _ => false
def isiN : Bi → Str
  | .isBoolB => "bool"
  | .isTupB => "tuple"
  | _ => "int"
def isSet : Expr → Bool
  | .Set _ _ _ => true
  | _ => false
def isStar : Expr → Bool
  | .Starred _ _ => true
  | _ => false
def isSlice : Expr → Bool
  | .Slice _ _ _ _ => true
  | _ => false
def isComp : Expr → Bool
  | .ListComp _ _ _ _ => true
  | .SetComp _ _ _ _ => true
  | .DictComp _ _ _ _ _ => true
  | _ => false
def isCall : Expr → Bool
  | .Call _ _ _ _ => true
  | _ => false
def isNone' : Expr → Bool
  | .Constant .none _ _ => true
  | _ => false
def locC (sc : Scope) (x : Str) : Bool := match sc.names.lookup x with
  | some .local => true
  | some .cell => true
  | _ => false
def isTup : Expr → Bool
  | .Tuple _ _ _ => true
  | _ => false
/-- enumerate and zip are unpacked -/
def tgOk (i : I) (t : Expr) : Bool := match i with
  | .iE _ => isTup t
  | .iZ _ _ => isTup t
  | _ => true
def gOwn (own : List Nat) : I → Bool
  | .gv i => decide (i ∈ own)
  | .gt g => gOwn own g
  | .gnil => true
  | .gcons g r => gOwn own g && gOwn own r
  | _ => false
/-- an expression whose test is its value's truth -/
def plainT : Expr → Bool
  | .BoolOp _ _ _ => false
  | .UnaryOp .Not _ _ => false
  | .Compare _ _ _ _ => false
  | .IfExp _ _ _ _ => false
  | .NamedExpr _ _ _ => false
  | _ => true
section
variable (M : Nm) (N : List Str)
mutual
def ckE (sc : Scope) (i : I) (e : Expr) : Bool := match i, e with
  | .var i, e => match e with
    | .Name x _ => decide (N[i]? = some x) && visB sc x
    | _ => false
  | .cst d, e => match e with
    | .Constant c _ _ => match c with
      | .none => (match d with | .non => true | _ => false)
      | .bool b => (match d with | .bl c => decide (b = c) | _ => false)
      | .int i => (match d with | .int j => decide (i = j) | _ => false)
      | .str x => (match d with | .str y => decide (x = y) | _ => false)
      | _ => false
    | _ => false
  | .glb k, e => match e with
    | .Name x _ => decide (M.cs[k]? = some x) && glB sc x
    | _ => false
  | .gdx k i, e => match e with
    | .Subscript o s _ => (match o with
      | .Name x _ => decide (M.ds[k]? = some x) && glB sc x
      | _ => false) && ckE sc i s && !isSlice s
    | _ => false
  | .tup a, e => match e with
    | .Tuple es _ _ => ckA sc a es
    | _ => false
  | .lst a, e => match e with
    | .List es _ => ckA sc a es
    | _ => false
  | .dct, e => match e with
    | .Dict ks vs _ => match ks, vs with
      | [], [] => true
      | _, _ => false
    | _ => false
  | .bin o a b, e => match e with
    | .BinOp x p y _ => bopB o p && ckE sc a x && ckE sc b y
    | _ => false
  | .neg a, e => match e with
    | .UnaryOp p x _ => (match p with | .USub => true | _ => false) && ckE sc a x
    | _ => false
  | .cmp o a b, e => match e with
    | .Compare x ps ys _ => match ps, ys with
      | [p], [y] => copB o p && ckE sc a x && ckE sc b y && !isSet y
      | _, _ => false
    | _ => false
  | .chn o p a b c, e => match e with
    | .Compare x qs ys _ => match qs, ys with
      | [q, r], [y, z] => copB o q && copB p r && copI o && copI p && ckE sc a x && ckE sc b y && ckE sc c z && !isSet z
      | _, _ => false
    | _ => false
  | .and a b, e => match e with
    | .BoolOp o xs _ => match o, xs with
      | .And, x :: y :: r => ckE sc a x && ckAnd sc b (y :: r)
      | _, _ => false
    | _ => false
  | .or a b, e => match e with
    | .BoolOp o xs _ => match o, xs with
      | .Or, x :: y :: r => ckE sc a x && ckOr sc b (y :: r)
      | _, _ => false
    | _ => false
  | .not a, e => match e with
    | .UnaryOp p x _ => (match p with | .Not => true | _ => false) && ckE sc a x
    | _ => false
  | .ife t a b, e => match e with
    | .IfExp c x y _ => ckT sc t c && ckE sc a x && ckE sc b y
    | _ => false
  | .ix a i, e => match e with
    | .Subscript o s _ => ckE sc a o && ckE sc i s && !isSlice s
    | _ => false
  | .sl a lo hi, e => match e with
    | .Subscript o s _ => match s with
      | .Slice l u st _ => ckE sc a o && ckO sc lo l && ckO sc hi u && st.isNone
      | _ => false
    | _ => false
  | .cal f a, e => match e with
    | .Call fn es ks _ => (match fn with
      | .Name x _ => (match M.fs[f]? with
        | some (y, _) => decide (x = y) && glB sc x
        | none => false)
      | _ => false) && ckA sc a es && ks.isEmpty && !es.isEmpty && es.all fun e => !isStar e
    | _ => false
  | .blt b a, e => match e with
    | .Call fn es ks _ => (match fn with
      | .Name x _ => bltB M sc x (biName b) && !isiB b
      | _ => false) && ks.isEmpty && (ckA sc a es && !es.isEmpty && es.all fun e => !isStar e)
    | _ => false
  | .isi b a, e => match e with
    | .Call fn es ks _ => (match fn with
      | .Name x _ => bltB M sc x "isinstance"
      | _ => false) && ks.isEmpty && (match es with
        | [v, t] => ckE sc a v && (match t with
          | .Name y _ => bltB M sc y (isiN b) && isiB b
          | _ => false) && !isStar v
        | _ => false)
    | _ => false
  | .app o v, e => match e with
    | .Call fn es ks pos => match fn, es with
      | .Attribute x m ap, [y] => decide (m = ("append" : Str)) && ckE sc o x && ckE sc v y && ks.isEmpty && !isStar y && decide (ap.endLine = pos.line) && !isCall x
      | _, _ => false
    | _ => false
  | .ext o v, e => match e with
    | .Call fn es ks pos => match fn, es with
      | .Attribute x m ap, [y] => decide (m = ("extend" : Str)) && ckE sc o x && ckE sc v y && ks.isEmpty && !isStar y && decide (ap.endLine = pos.line) && !isCall x
      | _, _ => false
    | _ => false
  | .pop o, e => match e with
    | .Call fn es ks pos => match fn, es with
      | .Attribute x m ap, [] => decide (m = ("pop" : Str)) && ckE sc o x && ks.isEmpty && decide (ap.endLine = pos.line) && !isCall x
      | _, _ => false
    | _ => false
  | .stp a i, e => match e with
    | .Subscript o s _ => match s with
      | .Slice none none (some t) _ => ckE sc a o && ckE sc i t
      | _ => false
    | _ => false
  | .frz a, e => isCall e && ckE sc a e
  | .lset a, e => match e with
    | .Call fn es ks _ => match fn, es with
      | .Name x _, [.Call fn2 es2 ks2 _] => match fn2, es2 with
        | .Name y _, [o] => bltB M sc x "len" && bltB M sc y "set" && ckE sc a o && ks.isEmpty && ks2.isEmpty && !isStar o
        | _, _ => false
      | _, _ => false
    | _ => false
  | .idx o v, e => match e with
    | .Call fn es ks pos => match fn, es with
      | .Attribute x m ap, [y] => decide (m = ("index" : Str)) && ckE sc o x && ckE sc v y && ks.isEmpty && !isStar y && decide (ap.endLine = pos.line) && !isCall x
      | _, _ => false
    | _ => false
  | .lc2 tg it tg1 it1 ifs v own own1, e => match e with
    | .ListComp elt gs scope _ => match gs with
      | [⟨t, i, [], as⟩, ⟨t1, i1, fs, as1⟩] => decide (as = 0) && decide (as1 = 0) && ckI sc it i && blkC N sc scope (own.map fun k => (N.getD k "", k)) && ckG scope tg t && own.all (fun k => decide (k < N.length)) &&
        ckI (relS scope sc) it1 i1 && ckG scope tg1 t1 && own1.all (fun k => decide (k ∈ own)) &&
        (match fs with
          | [] => (match ifs with | .cst (.bl true) => true | _ => false)
          | [f] => ckT (relS scope sc) ifs f
          | _ => false) && ckE (relS scope sc) v elt && gOwn own tg && gOwn own1 tg1 && !isSet i && !isSet i1 && tgOk it t && tgOk it1 t1
      | _ => false
    | _ => false
  | .lc tg it ifs v own, e => match e with
    | .ListComp elt gs scope _ => match gs with
      | [⟨t, i, fs, as⟩] => decide (as = 0) && ckI sc it i && blkC N sc scope (own.map fun k => (N.getD k "", k)) && ckG scope tg t && own.all (fun k => decide (k < N.length)) &&
        (match fs with
          | [] => (match ifs with | .cst (.bl true) => true | _ => false)
          | [f] => ckT (relS scope sc) ifs f
          | _ => false) && ckE (relS scope sc) v elt && gOwn own tg && !isSet i && tgOk it t
      | _ => false
    | _ => false
  | _, _ => false
termination_by structural i
def ckT (sc : Scope) (i : I) (e : Expr) : Bool := match i, e with
  | .and a b, e => match e with
    | .BoolOp o xs _ => match o, xs with
      | .And, x :: y :: r => ckT sc a x && ckTAnd sc b (y :: r)
      | _, _ => false
    | _ => false
  | .or a b, e => match e with
    | .BoolOp o xs _ => match o, xs with
      | .Or, x :: y :: r => ckT sc a x && ckTOr sc b (y :: r)
      | _, _ => false
    | _ => false
  | .not a, e => match e with
    | .UnaryOp p x _ => (match p with | .Not => true | _ => false) && ckT sc a x
    | _ => false
  | .cmp o a b, e => match e with
    | .Compare x ps ys _ => match ps, ys with
      | [p], [y] => copB o p && ckE sc a x && ckE sc b y && !isSet y
      | _, _ => false
    | _ => false
  | .chn o p a b c, e => match e with
    | .Compare x qs ys _ => match qs, ys with
      | [q, r], [y, z] => copB o q && copB p r && copI o && copI p && ckE sc a x && ckE sc b y && ckE sc c z && !isSet z
      | _, _ => false
    | _ => false
  | .tv a, e => ckE sc a e && plainT e
  | _, _ => false
termination_by structural i
/-- the rest of a and ..: one, or two and more -/
def ckAnd (sc : Scope) (i : I) (e : List Expr) : Bool := match i, e with
  | .and a b, es => match es with
    | y :: z :: r => ckE sc a y && ckAnd sc b (z :: r)
    | _ => false
  | .one a, es => match es with
    | [y] => ckE sc a y
    | _ => false
  | _, _ => false
termination_by structural i
def ckOr (sc : Scope) (i : I) (e : List Expr) : Bool := match i, e with
  | .or a b, es => match es with
    | y :: z :: r => ckE sc a y && ckOr sc b (z :: r)
    | _ => false
  | .one a, es => match es with
    | [y] => ckE sc a y
    | _ => false
  | _, _ => false
termination_by structural i
def ckTAnd (sc : Scope) (i : I) (e : List Expr) : Bool := match i, e with
  | .and a b, es => match es with
    | y :: z :: r => ckT sc a y && ckTAnd sc b (z :: r)
    | _ => false
  | .one a, es => match es with
    | [y] => ckT sc a y
    | _ => false
  | _, _ => false
termination_by structural i
def ckTOr (sc : Scope) (i : I) (e : List Expr) : Bool := match i, e with
  | .or a b, es => match es with
    | y :: z :: r => ckT sc a y && ckTOr sc b (z :: r)
    | _ => false
  | .one a, es => match es with
    | [y] => ckT sc a y
    | _ => false
  | _, _ => false
termination_by structural i
def ckA (sc : Scope) (i : I) (e : List Expr) : Bool := match i, e with
  | .anil, es => es.isEmpty
  | .acons a r, es => match es with
    | e :: es => ckE sc a e && ckA sc r es && !isStar e
    | [] => false
  | .astar a r, es => match es with
    | e :: es => (match e with | .Starred v _ => ckE sc a v | _ => false) && ckA sc r es
    | [] => false
  | _, _ => false
termination_by structural i
def ckO (sc : Scope) (i : I) (e : Option Expr) : Bool := match i, e with
  | .pno, o => o.isNone
  | .po a, o => match o with
    | some e => ckE sc a e
    | none => false
  | _, _ => false
termination_by structural i
def ckI (sc : Scope) (i : I) (e : Expr) : Bool := match i, e with
  | .iR a, e => match e with
    | .Call fn es ks _ => (match fn with
      | .Name x _ => bltB M sc x "range"
      | _ => false) && ckA sc a es && ks.isEmpty && (es.all fun e => !isStar e) && decide (es.length ≤ 3) && !es.isEmpty
    | _ => false
  | .iE a, e => match e with
    | .Call fn es ks _ => (match fn with
      | .Name x _ => bltB M sc x "enumerate"
      | _ => false) && (match es with
        | [v] => ckE sc a v && !isStar v
        | _ => false) && ks.isEmpty
    | _ => false
  | .iZ a b, e => match e with
    | .Call fn es ks _ => (match fn with
      | .Name x _ => bltB M sc x "zip"
      | _ => false) && (match es with
        | [v, w] => ckE sc a v && ckE sc b w && !isStar v && !isStar w
        | _ => false) && ks.isEmpty
    | _ => false
  | .iS a, e => ckE sc a e && !isSet e
  | _, _ => false
termination_by structural i
/-- a target; those of a tuple are names -/
def ckG (sc : Scope) (i : I) (e : Expr) : Bool := match i, e with
  | .gv i, e => match e with
    | .Name x _ => decide (N[i]? = some x) && locC sc x
    | _ => false
  | .gt g, e => match e with
    | .Tuple es _ _ => ckGs sc g es
    | _ => false
  | .gx o i, e => match e with
    | .Subscript a s _ => ckE sc o a && ckE sc i s && !isSlice s
    | _ => false
  | _, _ => false
termination_by structural i
def ckGs (sc : Scope) (i : I) (e : List Expr) : Bool := match i, e with
  | .gnil, es => es.isEmpty
  | .gcons g r, es => match es with
    | e :: es => ckG sc g e && ckGs sc r es && !isStar e
    | [] => false
  | _, _ => false
termination_by structural i
end
end
/-- the names of a row of targets, as the store that swaps sees them -/
def parNames (sc : Scope) (ts : List Expr) : List Str := ts.filterMap fun
    | .Name id pos => if sc.names.lookup id == some .local && pos.line == (ts.head?.map (·.pos.line)).getD 0 then some id else none
    | _ => none
/-- no swapped stores -/
def swNo (sc : Scope) (t e : Expr) : Bool := match t, e with
  | .Tuple ts _ _, .Tuple vs _ _ => !(ts.length == 2 || ts.length == 3) || vs.length != ts.length || vs.all (foldedForSure 8) || (parNames sc ts).length != ts.length
  | .List _ _, .Tuple _ _ _ => false
  | _, _ => true
/-- the stores of these names, swapped -/
def swYes (sc : Scope) (ts vs : List Expr) (ns : List Str) : Bool :=
  (ts.length == 2 || ts.length == 3) && vs.length == ts.length && !(vs.any isStar) && decide (parNames sc ts = ns) && ns.length == ts.length && ns.eraseDups.length == ns.length && !(vs.all (foldedForSure 8)) && !(vs.all (constantsAlone 8))
/-- is a comprehension kept in its name at once -/
def lcB (sc : Scope) (t e : Expr) : Option Bool := match e with
  | .ListComp _ _ s p => match t with
    | .Name y py => some (sc.names.lookup y == some .local && py.line == p.line && !(s.names.any fun (n, k) => n == y && (k == .local || k == .cell)))
    | _ => some false
  | e => if isComp e then none else some false
section
variable (M : Nm) (N : List Str) (sc : Scope)
mutual
def ckS (i : I) (s : Stmt) : Bool := match i, s with
  | .sAsg g e, s => match s with
    | .Assign ts v _ => match ts with
      | [t] => ckE M N sc e v && ckG M N sc g t && !isStar t && swNo sc t v && (lcB sc t v).isSome
      | _ => false
    | _ => false
  | .sPar2 i j a b, s => match s with
    | .Assign ts v _ => match ts, v with
      | [.Tuple [.Name x p, .Name y q] _ _], .Tuple [u, w] _ _ => ckE M N sc a u && ckE M N sc b w && decide (N[i]? = some x) && decide (N[j]? = some y) && decide (i ≠ j) && locB sc x && locB sc y && swYes sc [.Name x p, .Name y q] [u, w] [x, y]
      | _, _ => false
    | _ => false
  | .sPar3 i j l a b c, s => match s with
    | .Assign ts v _ => match ts, v with
      | [.Tuple [.Name x p, .Name y q, .Name z r] _ _], .Tuple [u, w, t] _ _ => ckE M N sc a u && ckE M N sc b w && ckE M N sc c t && decide (N[i]? = some x) && decide (N[j]? = some y) && decide (N[l]? = some z) && decide (i ≠ j) && decide (i ≠ l) && decide (j ≠ l) && locB sc x && locB sc y && locB sc z && swYes sc [.Name x p, .Name y q, .Name z r] [u, w, t] [x, y, z]
      | _, _ => false
    | _ => false
  | .sAug i o e, s => match s with
    | .AugAssign t p v _ => (match t with
      | .Name x _ => decide (N[i]? = some x) && locC sc x
      | _ => false) && bopB o p && ckE M N sc e v
    | _ => false
  | .sAugX o i op e, s => match s with
    | .AugAssign t p v _ => (match t with
      | .Subscript a j _ => ckE M N sc o a && ckE M N sc i j && !isSlice j
      | _ => false) && bopB op p && ckE M N sc e v
    | _ => false
  | .sExp e, s => match s with
    | .Expr v _ => ckE M N sc e v && !isComp v
    | _ => false
  | .sFor tg it b, s => match s with
    | .For t i body orelse _ => ckI M N sc it i && ckG M N sc tg t && tgOk it t && ckSs b body && orelse.isEmpty && !isSet i && (match tg with | .gx _ _ => false | _ => true)
    | _ => false
  | .sWh t b, s => match s with
    | .While c body orelse _ => ckT M N sc t c && ckSs b body && orelse.isEmpty
    | _ => false
  | .sIf t a b, s => match s with
    | .If c x y _ => ckT M N sc t c && ckSs a x && ckSs b y
    | _ => false
  | .sRet e, s => match s with
    | .Return v _ => match v with
      | some v => ckE M N sc e v
      | none => false
    | _ => false
  | .sRetN, s => match s with
    | .Return v _ => v.isNone
    | _ => false
  | .sNever, _ => true
  | .sPass, s => match s with
    | .Pass _ => true
    | .Expr v _ => match v with
      | .Constant (.str _) _ _ => true
      | _ => false
    | _ => false
  | .sBrk, s => match s with
    | .Break _ => true
    | _ => false
  | .sCnt, s => match s with
    | .Continue _ => true
    | _ => false
  | _, _ => false
termination_by structural i
def ckSs (i : I) (ss : List Stmt) : Bool := match i, ss with
  | .sNil, ss => ss.isEmpty
  | .sNever, _ => true
  | .sCons a r, ss => match ss with
    | s :: ss => ckS a s && ckSs r ss
    | [] => false
  | _, _ => false
termination_by structural i
end
end
/-- a def of the program, as the written part holds it -/
structure DefOk (g : G) (M : Nm) (K : PySem.W.Frag) (f : Nat) (x : Str) (ps : List Str) (F : Fd) : Prop where
  ex : ∃ (N : List Str) (qual : Str) (params : Arguments) (body : List Stmt) (scope : Scope) (fd : FuncData), FunD K x qual params body scope [] [] (g.fa f) fd ∧ FnScope N ps scope ∧ ckSs M N scope F.body body = true ∧
    ps.length = F.ar ∧ N.length = F.sz ∧ Binds K fd ps []
def allLoc (sc : Scope) : Bool := sc.names.all fun y => match y.2 with
  | .local => true
  | _ => false
def genS (sc : Scope) (xa xb : Str) : Bool := (match sc.kind with | .function => true | _ => false) && !sc.isCoroutine && allLoc sc && locC sc (".0" : Str) && locC sc xa && locC sc xb && decide (xa ≠ xb) && !(xa == ("__debug__" : Str)) && !(xb == ("__debug__" : Str))
/-- next((a for a, b in enumerate(row) if b != 0), None) -/
def leadE (M : Nm) (N : List Str) (sc : Scope) (e : Expr) : Bool := match e with
  | .Call fn es ks _ => match fn, es with
    | .Name nx _, [.GeneratorExp el gs gsc _, .Constant k _ _] => match el, gs, k with
      | .Name xa _, [⟨t, it, fs, as⟩], .none => match t, it, fs with
        | .Tuple ts _ _, .Call en rs ks2 _, [.Compare l ops cs _] => match ts, en, rs, l, ops, cs with
          | [.Name xa2 _, .Name xb _], .Name en _, [r], .Name xb2 _, [.NotEq], [.Constant (.int 0) _ _] => bltB M sc nx "next" && bltB M sc en "enumerate" && decide (xa = xa2) && decide (xb = xb2) && ckE M N sc (.var 0) r && !isStar r && ks.isEmpty && ks2.isEmpty && decide (as = 0) && genS gsc xa xb
          | _, _, _, _, _, _ => false
        | _, _, _ => false
      | _, _, _ => false
    | _, _ => false
  | _ => false
def leadS (M : Nm) (N : List Str) (sc : Scope) (body : List Stmt) : Bool := match body with
  | [.Return (some e) _] => leadE M N sc e
  | _ => false
def leadI : I := .sCons (.sRet (.fst0 (.var 0))) .sNil
structure LeadOk (g : G) (M : Nm) (K : PySem.W.Frag) (f : Nat) (x : Str) (ps : List Str) (F : Fd) : Prop where
  ex : ∃ (N : List Str) (qual : Str) (params : Arguments) (body : List Stmt) (scope : Scope) (fd : FuncData) (c P : Addr), FunD K x qual params body scope [] [] (g.fa f) fd ∧ FnScope N ps scope ∧ leadS M N scope body = true ∧
    ps.length = 1 ∧ N.length = 1 ∧ F = ⟨1, 1, leadI⟩ ∧ Binds K fd ps [] ∧ (c, P) ∈ g.tb ∧ fd.code = .ref c
def PgOk (P : Pg) (g : G) (M : Nm) (K : PySem.W.Frag) : Prop := ∀ (f : Nat) (x : Str) (ps : List Str), M.fs[f]? = some (x, ps) → ∃ F, P.fs[f]? = some F ∧ (DefOk g M K f x ps F ∨ LeadOk g M K f x ps F)
end Ev
-- EvD
namespace Ev
open PySem PySem.Spec PyProof.Rows L2
/-! readings by the evaluator -/
structure Kt where
  e : VK := fun _ _ => False
  a : List V → Hp → Prop := fun _ _ => False
  i : Src → Hh → List Addr → Hp → Prop := fun _ _ _ _ => False
  x : Ends := { nx := fun _ _ => False, rt := fun _ _ => False }
def Run (g : G) (ρ : List Addr) (H : Hp) (k : Kt) : R → Prop
  | .ok d h' => ∀ (ρ' : List Addr) (H' : Hp) (v : V), Mono g ρ H ρ' H' → Sim g ρ' h' H' → Rep g ρ' H' d v → k.e v H'
  | .oks ds h' => ∀ (ρ' : List Addr) (H' : Hp) (vs : List V), Mono g ρ H ρ' H' → Sim g ρ' h' H' → Reps g ρ' H' ds vs → k.a vs H'
  | .osr s h' => ∀ (ρ' : List Addr) (H' : Hp), Mono g ρ H ρ' H' → Sim g ρ' h' H' → k.i s h' ρ' H'
  | .nx sg h' => ∀ (ρ' : List Addr) (H' : Hp) (σ : L2.St), Mono g ρ H ρ' H' → Sim g ρ' h' H' → EnvR g ρ' H' sg σ → k.x.nx σ H'
  | .bk sg h' => ∀ (ρ' : List Addr) (H' : Hp) (σ : L2.St), Mono g ρ H ρ' H' → Sim g ρ' h' H' → EnvR g ρ' H' sg σ → k.x.bk σ H'
  | .ct sg h' => ∀ (ρ' : List Addr) (H' : Hp) (σ : L2.St), Mono g ρ H ρ' H' → Sim g ρ' h' H' → EnvR g ρ' H' sg σ → k.x.ct σ H'
  | .rt d h' => ∀ (ρ' : List Addr) (H' : Hp) (v : V), Mono g ρ H ρ' H' → Sim g ρ' h' H' → Rep g ρ' H' d v → k.x.rt v H'
  | .no => False
abbrev ke (Q : VK) : Kt := { e := Q }
abbrev ka (Q : List V → Hp → Prop) : Kt := { a := Q }
abbrev ki (Q : Src → Hh → List Addr → Hp → Prop) : Kt := { i := Q }
abbrev kx (D : Ends) : Kt := { x := D }
def RunT (g : G) (ρ : List Addr) (H : Hp) (Q : Bool → Hp → Prop) : R → Prop
  | .ok d h' => ∃ b, tru h' d = some b ∧ ∀ (ρ' : List Addr) (H' : Hp), Mono g ρ H ρ' H' → Sim g ρ' h' H' → (∃ v, Rep g ρ' H' d v) → Q b H'
  | _ => False
section
variable {g : G} {ρ ρ1 : List Addr} {H H1 : Hp} {k : Kt}
theorem Run.base (m : Mono g ρ H ρ1 H1) : ∀ {r : R}, Run g ρ H k r → Run g ρ1 H1 k r
  | .ok _ _, hr => fun ρ' H' v m' s q => hr ρ' H' v (m.trans m') s q
  | .oks _ _, hr => fun ρ' H' v m' s q => hr ρ' H' v (m.trans m') s q
  | .osr _ _, hr => fun ρ' H' m' s => hr ρ' H' (m.trans m') s
  | .nx _ _, hr => fun ρ' H' v m' s q => hr ρ' H' v (m.trans m') s q
  | .bk _ _, hr => fun ρ' H' v m' s q => hr ρ' H' v (m.trans m') s q
  | .ct _ _, hr => fun ρ' H' v m' s q => hr ρ' H' v (m.trans m') s q
  | .rt _ _, hr => fun ρ' H' v m' s q => hr ρ' H' v (m.trans m') s q
  | .no, hr => hr
theorem Run.on {r : R} {f : D → Hh → R} (hr : Run g ρ H k (r.on f)) {Q : VK}
    (c : ∀ (d : D) (h' : Hh) (ρ' : List Addr) (H' : Hp) (v : V), Mono g ρ H ρ' H' → Sim g ρ' h' H' → Rep g ρ' H' d v → Run g ρ' H' k (f d h') → Q v H') : Run g ρ H (ke Q) r := by
  cases r with
  | ok d h' => exact fun ρ' H' v m s q => c d h' ρ' H' v m s q (hr.base m)
  | _ => exact (show False from hr).elim
theorem Run.ons {r : R} {f : List D → Hh → R} (hr : Run g ρ H k (r.ons f)) {Q : List V → Hp → Prop}
    (c : ∀ (d : List D) (h' : Hh) (ρ' : List Addr) (H' : Hp) (v : List V), Mono g ρ H ρ' H' → Sim g ρ' h' H' → Reps g ρ' H' d v → Run g ρ' H' k (f d h') → Q v H') : Run g ρ H (ka Q) r := by
  cases r with
  | oks d h' => exact fun ρ' H' v m s q => c d h' ρ' H' v m s q (hr.base m)
  | _ => exact (show False from hr).elim
theorem Run.onsr {r : R} {f : Src → Hh → R} (hr : Run g ρ H k (r.onsr f)) {Q : Src → Hh → List Addr → Hp → Prop}
    (c : ∀ (s : Src) (h' : Hh) (ρ' : List Addr) (H' : Hp), Mono g ρ H ρ' H' → Sim g ρ' h' H' → Run g ρ' H' k (f s h') → Q s h' ρ' H') : Run g ρ H (ki Q) r := by
  cases r with
  | osr d h' => exact fun ρ' H' m s => c d h' ρ' H' m s (hr.base m)
  | _ => exact (show False from hr).elim
theorem Run.onb {r : R} {f : Bool → Hh → R} (hr : Run g ρ H k (r.onb f)) {Q : Bool → Hp → Prop}
    (c : ∀ (b : Bool) (h' : Hh) (ρ' : List Addr) (H' : Hp), Mono g ρ H ρ' H' → Sim g ρ' h' H' → Run g ρ' H' k (f b h') → Q b H') : RunT g ρ H Q r := by
  cases r with
  | ok d h' =>
    have hr' : Run g ρ H k (match tru h' d with | some b => f b h' | none => .no) := hr
    cases e : tru h' d with
    | none =>
      rw [e] at hr'
      exact (show False from hr').elim
    | some b =>
      rw [e] at hr'
      exact ⟨b, e, fun ρ' H' m s _ => c b h' ρ' H' m s (Run.base m hr')⟩
  | _ => exact (show False from hr).elim
theorem Run.mk {d : D} {h : Hh} {v : V} {Q : VK} (hr : Run g ρ H (ke Q) (.ok d h)) (s : Sim g ρ h H) (r : Rep g ρ H d v) : Q v H := hr ρ H v (Mono.refl _ _ _) s r
/-- a new list -/
theorem Run.newL {ds : List D} {vs : List V} {h : Hh} {Q : VK} {p : Addr} (hr : Run g ρ H (ke Q) (newL h ds)) (s : Sim g ρ h H) (r : Reps g ρ H ds vs) (n : H p = none) : Q (.ref p) (upd H p (.lst vs)) := by
  obtain ⟨s', m, e⟩ := s.push n r
  exact hr _ _ _ m s' (.ptr e)
theorem Rep.mkT {ds : List D} {vs : List V} {a : Addr} (q : SqN g.K H a vs) (r : Reps g ρ H ds vs) : Rep g ρ H (mkT ds) (.ref a) := by
  unfold Ev.mkT
  cases e : ds.any isPtr with
  | true => exact .mtp q r
  | false => exact .pure (.tup q (r.toP e))
/-- a new tuple -/
theorem Run.newT {ds : List D} {vs : List V} {h : Hh} {Q : VK} (hr : Run g ρ H (ke Q) (.ok (mkT ds) h)) (s : Sim g ρ h H) (r : Reps g ρ H ds vs) : NewT vs H Q :=
  fun _ _ n d => hr ρ _ _ (Mono.new n) (s.new n) (Rep.mkT (SqN.new d) (r.mono (Mono.new n)))
theorem Run.newTP {ds : List D} {vs : List V} {h : Hh} {Q : VK} (hr : Run g ρ H (ke Q) (.ok (.tup ds) h)) (s : Sim g ρ h H) (r : RepPs g H ds vs) : NewT vs H Q :=
  fun _ _ n d => hr ρ _ _ (Mono.new n) (s.new n) (.pure (.tup (SqN.new d) (r.mono (mono_new n))))
/-- what is read of a value -/
theorem Rep.int {i : Int} {v : V} (r : Rep g ρ H (.int i) v) : v = .int i := by
  cases r with
  | pure r => cases r; rfl
theorem Rep.bl {i : Bool} {v : V} (r : Rep g ρ H (.bl i) v) : v = .bl i := by
  cases r with
  | pure r => cases r; rfl
theorem Rep.non {v : V} (r : Rep g ρ H .non v) : v = .non := by
  cases r with
  | pure r => cases r; rfl
theorem Rep.tup {ds : List D} {v : V} (r : Rep g ρ H (.tup ds) v) : ∃ (a : Addr) (vs : List V), v = .ref a ∧ SqN g.K H a vs ∧ RepPs g H ds vs := by
  cases r with
  | pure r => cases r with
    | tup s r => exact ⟨_, _, rfl, s, r⟩
theorem Rep.ptr' {n : Nat} {v : V} (r : Rep g ρ H (.ptr n) v) : ∃ p : Addr, v = .ref p ∧ ρ[n]? = some p := by
  cases r with
  | pure r => cases r
  | ptr e => exact ⟨_, rfl, e⟩
theorem Sim.lst {h : Hh} {n : Nat} {v : V} {ds : List D} (s : Sim g ρ h H) (r : Rep g ρ H (.ptr n) v) (e : h[n]? = some ds) : ∃ (p : Addr) (vs : List V), v = .ref p ∧ ρ[n]? = some p ∧ H p = some (.lst vs) ∧ Reps g ρ H ds vs := by
  obtain ⟨p, e1, e2⟩ := r.ptr'
  obtain ⟨vs, h1, h2⟩ := s.get e e2
  exact ⟨p, vs, e1, e2, h1, h2⟩
theorem items_seq {h : Hh} {d : D} {v : V} {ds : List D} (s : Sim g ρ h H) (r : Rep g ρ H d v) (e : itemsOf h d = some ds) :
    ∃ (a : Addr) (vs : List V), v = .ref a ∧ (SqL g.K H a vs ∨ SqT g.K H a vs) ∧ Reps g ρ H ds vs := by
  cases r with
  | pure r =>
    cases r with
    | tup q rr => cases e; exact ⟨_, _, rfl, .inr q.t, rr.reps⟩
    | frl q rr => cases e; exact ⟨_, _, rfl, .inl q.seq, rr.reps⟩
    | _ => cases e
  | ptr z =>
    obtain ⟨vs, h1, h2⟩ := s.get (show h[_]? = some ds from e) z
    exact ⟨_, vs, rfl, .inl (SqL.of h1), h2⟩
  | mtp q rr => cases e; exact ⟨_, _, rfl, .inr q.t, rr⟩
end
/-! the state, the readings -/
section
variable (P : Pg) (g : G)
def tE (n : Nat) (e : I) : TE := fun σ H Q => ∃ (ρ : List Addr) (h : Hh) (sg : Sg), Sim g ρ h H ∧ EnvR g ρ H sg σ ∧ Run g ρ H (ke Q) (ev P n e sg h)
def tT (n : Nat) (e : I) : TT := fun σ H Q => ∃ (ρ : List Addr) (h : Hh) (sg : Sg), Sim g ρ h H ∧ EnvR g ρ H sg σ ∧ RunT g ρ H Q (ev P n e sg h)
def tA (n : Nat) (e : I) : TA := fun σ H Q => ∃ (ρ : List Addr) (h : Hh) (sg : Sg), Sim g ρ h H ∧ EnvR g ρ H sg σ ∧ Run g ρ H (ka Q) (ev P n e sg h)
def tS (n : Nat) (e : I) : TS := fun D σ H => ∃ (ρ : List Addr) (h : Hh) (sg : Sg), Sim g ρ h H ∧ EnvR g ρ H sg σ ∧ Run g ρ H (kx D) (ev P n e sg h)
end
theorem PE.imp {X : Cx} {e : Expr} {t t' : TE} (h : PE X e t) (i : ∀ σ H Q, t' σ H Q → t σ H Q) : PE X e t' := ⟨fun pins s σ H Q I w => h.run pins s σ H Q I (i σ H Q w)⟩
theorem PT.imp {X : Cx} {e : Expr} {t t' : TT} (h : PT X e t) (i : ∀ σ H Q, t' σ H Q → t σ H Q) : PT X e t' := ⟨fun pins s σ H Q I w => h.run pins s σ H Q I (i σ H Q w)⟩
theorem PW.imp {X : Cx} {e : Expr} {t t' : TT} (h : PW X e t) (i : ∀ σ H Q, t' σ H Q → t σ H Q) : PW X e t' := ⟨fun wh pins s σ H Q I w => h.run wh pins s σ H Q I (i σ H Q w)⟩
theorem PA.imp {X : Cx} {e : List Expr} {t t' : TA} (h : PA X e t) (i : ∀ σ H Q, t' σ H Q → t σ H Q) : PA X e t' := ⟨fun pos pins s σ H Q I w => h.run pos pins s σ H Q I (i σ H Q w)⟩
theorem PS.imp {X : Cx} {e : Stmt} {t t' : TS} (h : PS X e t) (i : ∀ D σ H, t' D σ H → t D σ H) : PS X e t' := ⟨fun pins s σ H D I w => h.run pins s σ H D I (i D σ H w)⟩
theorem PSs.imp {X : Cx} {e : List Stmt} {t t' : TS} (h : PSs X e t) (i : ∀ D σ H, t' D σ H → t D σ H) : PSs X e t' := ⟨fun pins s σ H D I w => h.run pins s σ H D I (i D σ H w)⟩
end Ev
-- EvR1
/-! rules that the layer lacks: tuple * int for every int -/
namespace Ev
open PySem PySem.Spec PyProof.Rows L2
theorem tuple_mul1 (l : Addr) (items : Array Value) (n : Nat) (dd : Option Addr) (sl : Array (Option Value)) (x : Int) (u : Tok) (c0 : (decide (x < -(2 ^ 63)) || decide (x ≥ 2 ^ 63)) = false) (c1 : (items.isEmpty || x == 1) = true) :
    Meets (Builtin.«tuple.__mul__» ⟨[.ref l, .int x u], []⟩) (fun _ R s => s.heap.get? l = some { cls := .type "tuple", dict := dd, data := .seq items n, slots := sl } ∧
      R (.ok (.ret (Value.ref l))) s) :=
  .of_wp fun prog w A R s h => by
    obtain ⟨hp, g, d, tk, os⟩ := s
    obtain ⟨hl, h⟩ := h
    have f1 := AutoSeq1.idx_int
    wp_walk using wpAny_loadPart' hl
    repeat (first
      | (refine wpAny_ite_false (decide_eq_false (by rw [c0]; exact Bool.false_ne_true)) ?_; wp_walk using wpAny_loadPart' hl)
      | (refine wpAny_ite_true (decide_eq_true (by rw [c1])) ?_; wp_walk using wpAny_loadPart' hl))
    exact ⟨_, rfl, h⟩
theorem tuple_mul0 (l : Addr) (items : Array Value) (n : Nat) (dd : Option Addr) (sl : Array (Option Value)) (x : Int) (u : Tok) (c0 : (decide (x < -(2 ^ 63)) || decide (x ≥ 2 ^ 63)) = false) (c1 : (items.isEmpty || x == 1) = false) (c2 : (decide (x ≤ 0) || items.isEmpty) = true) :
    Meets (Builtin.«tuple.__mul__» ⟨[.ref l, .int x u], []⟩) (fun _ R s => s.heap.get? l = some { cls := .type "tuple", dict := dd, data := .seq items n, slots := sl } ∧
      R (.ok (.ret (Value.ref s.heap.objs.size))) { s with heap := s.heap.push { cls := Value.type "tuple", data := Data.seq #[] }, toks := s.toks }) :=
  .of_wp fun prog w A R s h => by
    obtain ⟨hp, g, d, tk, os⟩ := s
    obtain ⟨hl, h⟩ := h
    have f1 := AutoSeq1.idx_int
    wp_walk using wpAny_loadPart' hl
    repeat (first
      | (refine wpAny_ite_false (decide_eq_false (by rw [c0]; exact Bool.false_ne_true)) ?_; wp_walk using wpAny_loadPart' hl)
      | (refine wpAny_ite_false (decide_eq_false (by rw [c1]; exact Bool.false_ne_true)) ?_; wp_walk using wpAny_loadPart' hl)
      | (refine wpAny_ite_true (decide_eq_true (by rw [c2])) ?_; wp_walk using wpAny_loadPart' hl))
    exact ⟨_, rfl, h⟩
def rRepTA (K : PySem.W.Frag) : R2 := fun x y H Q => ∃ (l : Addr) (k : Int) (xs : List V), x = .ref l ∧ y = .int k ∧ SqT K H l xs ∧ k.natAbs < 2 ^ 62 ∧ xs.length * k.toNat ≤ sizeLine ∧
  ((List.replicate k.toNat xs).flatten = xs → Q (.ref l) H) ∧ NewT (List.replicate k.toNat xs).flatten H Q
theorem op_repTA {X : Cx} : OpR X (binaryOp .Mult) (rRepTA X.K) := by
  intro pins s σ H x y v u Q I rx ry h
  obtain ⟨l, k, xs, rfl, rfl, hT, hk, hz, q0, q⟩ := h
  cases rx
  obtain ⟨t, rfl⟩ := ry
  obtain ⟨its, r, ⟨⟨cls, dd, data, sl⟩, ho, hc, n, hd⟩, hs⟩ := I.tuple hT
  simp only at hc hd
  subst hc hd
  have hle : its.length = xs.length := r.length.symm
  have hsz0 : its.toArray.size = xs.length := by rw [List.size_toArray, hle]
  have c0 : (decide (k < -(2 ^ 63)) || decide (k ≥ 2 ^ 63)) = false := by
    rw [decide_eq_false (by omega), decide_eq_false (by omega)] <;> rfl
  have go : ∀ {R : Value → Shared → Prop}, Meets (Builtin.«tuple.__mul__» ⟨[.ref l, .int k t], []⟩) (fun _ R s => s.heap.get? l = some { cls := .type "tuple", dict := dd, data := .seq its.toArray n, slots := sl } ∧ ∃ v s', (R (.ok (.ret v)) s' ∧ EP X pins σ Q v s')) → True := fun _ => trivial
  refine wpAny_binaryOp_repeat_ref (T := "tuple") (U := "int") (by decide) ⟨_, ho, rfl⟩ (fun s' => typeIs_int s' k t) noFill_tuple_mul F.fills_int_mul F.slot_int_rmul repeat_tuple F.slot_int_index.lookup
    (call_meets F.slot_int_rmul (typeIs_int s k t) F.entry_int_rmul (F.args_int_rmul_2 _ _) (int_rmul_tuple k t l its.toArray n dd sl)
      ⟨ho, rfl, ⟨_, ho, rfl⟩, ?_⟩)
  cases c1 : (its.toArray.isEmpty || k == 1) with
  | true =>
    refine call_meets F.slot_tuple_mul ⟨_, ho, rfl⟩ F.entry_tuple_mul (F.args_tuple_mul_2 _ _) (tuple_mul1 l its.toArray n dd sl k t c0 c1) ⟨ho, ?_⟩
    refine ⟨.ref l, H, I.tok _, rfl, q0 ?_⟩
    rcases Bool.or_eq_true_iff.mp c1 with e | e
    · have en : xs = [] := by
        have : its = [] := by simpa using e
        rw [this] at hle
        exact List.eq_nil_of_length_eq_zero hle.symm
      subst en
      have : (List.replicate k.toNat ([] : List V)).flatten = [] := by simp
      exact this
    · have : k = 1 := by simpa using e
      subst this
      have : (List.replicate (1 : Int).toNat xs).flatten = xs := by simp
      exact this
  | false =>
    obtain ⟨e1, e2⟩ := Bool.or_eq_false_iff.mp c1
    cases c2 : (decide (k ≤ 0) || its.toArray.isEmpty) with
    | true =>
      refine call_meets F.slot_tuple_mul ⟨_, ho, rfl⟩ F.entry_tuple_mul (F.args_tuple_mul_2 _ _) (tuple_mul0 l its.toArray n dd sl k t c0 c1 c2) ⟨ho, ?_⟩
      have k0 : k.toNat = 0 := by
        rw [e1, Bool.or_false] at c2
        have := of_decide_eq_true c2
        omega
      rw [k0] at q
      exact newT_ok (us := []) I q (by simp) (by simpa using Paired.nil)
    | false =>
      obtain ⟨d1, d2⟩ := Bool.or_eq_false_iff.mp c2
      have kp : 0 < k := by have := of_decide_eq_false d1; omega
      have hm : ((its.toArray.size : Nat) : Int) * k ≤ sizeLine := by
        rw [hsz0]
        have : ((xs.length * k.toNat : Nat) : Int) ≤ sizeLine := by exact_mod_cast hz
        rw [Int.natCast_mul, Int.toNat_of_nonneg (by omega)] at this
        exact this
      have sl0 : (sizeLine : Nat) = 16777216 := sizeLine_eq
      have flen : (List.replicate k.toNat its).flatten.length ≤ sizeLine := by
        rw [PyProof.Rows.lm_len_rep_flat, hle, Nat.mul_comm]
        exact hz
      have c4 : Builtin.Tuple.tupleTooMany (((its.toArray.size : Nat) : Int) * k) = false := by
        unfold Builtin.Tuple.tupleTooMany
        exact decide_eq_false (by omega)
      refine call_meets F.slot_tuple_mul ⟨_, ho, rfl⟩ F.entry_tuple_mul (F.args_tuple_mul_2 _ _) (tuple_mulW l its.toArray n dd sl k t c0 c1 c2 (by omega) c4 (by rw [size_rep, List.size_toArray]; exact flen)) ⟨ho, ?_⟩
      rw [size_rep]
      exact newT_ok I q (by rw [PyProof.Rows.lm_len_rep_flat, Nat.mul_comm]; exact hz) (r.rep k.toNat)
/-! a dict of the written part with int keys -/
def KI (K : PySem.W.Frag) (a : Addr) (i : Int) (v : V) : Prop :=
  ∃ (es : Array DictEntry) (n : Nat) (u : Value), K.lookup a = some ⟨.type "dict", none, .dict es n, #[]⟩ ∧ (∀ e ∈ es.toList, ∃ (j : Int) (t : Tok), e.key = .int j t ∧ e.hash = hashInt j) ∧ findBy Value.isInt es i = some u ∧ RelV v u
def rIxI (K : PySem.W.Frag) : R2 := fun x y H Q => ∃ (p : Addr) (i : Int) (v : V), x = .ref p ∧ y = .int i ∧ KI K p i v ∧ Q v H
theorem ix_kint {X : Cx} : IxR X (rIxI X.K) := by
  intro value slice pins s σ H x y v u Q I rx ry h hs
  obtain ⟨p, i, r, rfl, rfl, ⟨es, n, u0, hl, hk, e, ru⟩, q⟩ := h
  obtain rfl : v = Value.ref p := rx
  obtain ⟨t, rfl⟩ := ry
  have hm : s.heap.MapOf (intKind X.prog X.w) p (fun k => findBy Value.isInt es k) := ⟨_, es, n, I.kIn _ _ hl, ⟨rfl, rfl, rfl⟩, rfl, fun e he => by
    obtain ⟨j, t, e1, e2⟩ := hk e (Array.mem_toList_iff.mpr he)
    exact ⟨j, by rw [e1]; simp [intKind, Value.isInt], e2⟩, fun _ => rfl⟩
  exact tail_any hm.typeIs slot_dict_getitem.lookup (wpAny_getItem_of (by simp [intKind, Value.isInt]) hm e ⟨r, H, I.tok _, ru, q⟩) hs
end Ev
-- EvE
/-! operators -/
namespace Ev
open PySem PySem.Spec PyProof.Rows L2
theorem line_eq : line = sizeLine := sizeLine_eq.symm
theorem line_le {n : Nat} (h : Nat.ble n line = true) : n ≤ sizeLine := by
  rw [← line_eq]
  exact Nat.le_of_ble_eq_true h
theorem smallI_ok {i : Int} (h : smallI i = true) : -(2 ^ 64) < i ∧ i < 2 ^ 64 := by
  have := Nat.le_of_ble_eq_true (show Nat.ble (i.natAbs + 1) (2 ^ 64) = true from h)
  omega
theorem mulOk_ok {i j : Int} (h : mulOk i j = true) : IntMulOk i j := by
  rcases Bool.or_eq_true_iff.mp h with h | h
  · exact CMul.ok (.inl (smallI_ok h))
  · exact CMul.ok (.inr (smallI_ok h))
theorem posI_ok {j : Int} (h : posI j = true) : 0 < j := by
  match j, h with
  | .ofNat (n + 1), _ => exact Int.natCast_pos.mpr (Nat.succ_pos n)
theorem divOk_ok {i j : Int} (h : divOk j = true) : CDivW i j := by
  obtain ⟨h1, h2⟩ := Bool.and_eq_true_iff.mp h
  exact wide_div (b := 8000) (posI_ok h1) (Nat.le_of_ble_eq_true h2) (by decide) (by decide)
theorem op_powE {X : Cx} : OpR X (binaryOp .Pow) (rI (fun i j => powOk i j = true) fun i j => .int (i ^ j.toNat)) := opI fun i j _ _ _ _ _ hc q => by
  match j, hc with
  | .ofNat n, hc =>
    obtain ⟨h1, h2⟩ := Bool.and_eq_true_iff.mp (show (Nat.ble n 1000 && Nat.blt i.natAbs (2 ^ 1000)) = true from hc)
    have n1 := Nat.le_of_ble_eq_true h1
    have n2 : i.natAbs < 2 ^ 1000 := Nat.le_of_ble_eq_true h2
    refine pow_int (by exact Int.natCast_nonneg n) ?_ q
    have b : Builtin.Int.intBits i ≤ 1000 := by
      have := PySem.Flt.log2_lt_of (by decide) n2
      unfold Builtin.Int.intBits
      split <;> omega
    have : ((Builtin.Int.intBits i : Nat) : Int) * ((n : Nat) : Int) ≤ ((1000 * 1000 : Nat) : Int) := by
      have := Nat.mul_le_mul b n1
      rw [← Int.natCast_mul]
      exact Int.ofNat_le.mpr this
    exact Int.le_trans this (by decide)
def bopOf : BOp → Operator
  | .add => .Add
  | .sub => .Sub
  | .mul => .Mult
  | .mod => .Mod
  | .fdiv => .FloorDiv
  | .pow => .Pow
theorem bopB_ok {o : BOp} {p : Operator} (h : bopB o p = true) : p = bopOf o := by
  cases o <;> cases p <;> first | rfl | cases h
section
variable {g : G}
def rBin (g : G) (o : BOp) : R2 := fun x y H Q => ∃ (ρ : List Addr) (h : Hh) (d e : D), Sim g ρ h H ∧ Rep g ρ H d x ∧ Rep g ρ H e y ∧ Run g ρ H (ke Q) (binop o d e h)
theorem catO_ok {ds es fs : List D} (h : catO ds es = some fs) : ds.length + es.length ≤ sizeLine ∧ fs = ds ++ es := by
  unfold catO at h
  cases e : Nat.ble (ds.length + es.length) line with
  | true =>
    rw [e] at h
    exact ⟨line_le e, (Option.some.inj h).symm⟩
  | false =>
    rw [e] at h
    cases h
theorem repO_ok {ds fs : List D} {k : Int} (h : repO ds k = some fs) : ds.length * k.toNat ≤ sizeLine ∧ k.natAbs < 2 ^ 62 ∧ fs = (List.replicate k.toNat ds).flatten := by
  unfold repO at h
  cases e : Nat.ble (ds.length * k.toNat) line && Nat.blt k.natAbs (2 ^ 62) with
  | true =>
    rw [e] at h
    obtain ⟨e1, e2⟩ := Bool.and_eq_true_iff.mp e
    exact ⟨line_le e1, Nat.le_of_ble_eq_true e2, (Option.some.inj h).symm⟩
  | false =>
    rw [e] at h
    cases h
theorem RepPs.length {H : Hp} : ∀ {ds : List D} {vs : List V}, RepPs g H ds vs → ds.length = vs.length
  | _, _, .nil => rfl
  | _, _, .cons _ s => congrArg Nat.succ (RepPs.length s)
theorem RepPs.append {H : Hp} : ∀ {ds es : List D} {vs ws : List V}, RepPs g H ds vs → RepPs g H es ws → RepPs g H (ds ++ es) (vs ++ ws)
  | _, _, _, _, .nil, t => t
  | _, _, _, _, .cons r s, t => .cons r (RepPs.append s t)
theorem RepPs.rep {H : Hp} {ds : List D} {vs : List V} (r : RepPs g H ds vs) : ∀ n : Nat, RepPs g H (List.replicate n ds).flatten (List.replicate n vs).flatten
  | 0 => .nil
  | n + 1 => by
    rw [List.replicate_succ, List.replicate_succ, List.flatten_cons, List.flatten_cons]
    exact r.append (RepPs.rep r n)
theorem RepPs.take {H : Hp} : ∀ {ds : List D} {vs : List V} (n : Nat), RepPs g H ds vs → RepPs g H (ds.take n) (vs.take n)
  | _, _, 0, _ => .nil
  | _, _, _ + 1, .nil => .nil
  | _, _, n + 1, .cons r t => .cons r (RepPs.take n t)
theorem RepPs.drop {H : Hp} : ∀ {ds : List D} {vs : List V} (n : Nat), RepPs g H ds vs → RepPs g H (ds.drop n) (vs.drop n)
  | _, _, 0, r => r
  | _, _, _ + 1, .nil => .nil
  | _, _, n + 1, .cons _ t => RepPs.drop n t
theorem op_bin {X : Cx} (hK : X.K = g.K) (o : BOp) : OpR X (binaryOp (bopOf o)) (rBin g o) := by
  intro pins s σ H x y v u Q I rx ry hr
  obtain ⟨ρ, h, d, e, sim, rd, re, hr⟩ := hr
  cases o with
  | add =>
    cases d with
    | int i =>
      cases e with
      | int j =>
        obtain rfl := rd.int
        obtain rfl := re.int
        exact op_add pins s σ H _ _ v u Q I rx ry ⟨i, j, rfl, rfl, hr.mk sim (.pure (.int _))⟩
      | _ => exact (show False from hr).elim
    | tup ds =>
      cases e with
      | tup es =>
        obtain ⟨a, vs, rfl, qa, ra⟩ := rd.tup
        obtain ⟨b, ws, rfl, qb, rb⟩ := re.tup
        have hr' : Run g ρ H (ke Q) (match catO ds es with | some fs => .ok (.tup fs) h | none => .no) := hr
        cases c : catO ds es with
        | none => rw [c] at hr'; exact (show False from hr').elim
        | some fs =>
          rw [c] at hr'
          obtain ⟨z, rfl⟩ := catO_ok c
          have r := ra.append rb
          have qa0 := qa.t
          have qb0 := qb.t
          rw [← hK] at qa0 qb0
          refine op_catN pins s σ H _ _ v u Q I rx ry ⟨a, b, vs, ws, rfl, rfl, qa0, qb0, by rw [← ra.length, ← rb.length]; exact z, fun e0 => ?_, fun _ e0 => ?_, fun _ _ => hr'.newTP sim r⟩
          · subst e0
            exact hr'.mk sim (.pure (.tup qb r))
          · subst e0
            rw [List.append_nil] at r
            exact hr'.mk sim (.pure (.tup qa r))
      | _ => exact (show False from hr).elim
    | ptr a =>
      cases e with
      | ptr b =>
        have hr' : Run g ρ H (ke Q) (match h[a]?, h[b]? with | some ds, some es => (match catO ds es with | some fs => newL h fs | none => .no) | _, _ => .no) := hr
        cases ea : h[a]? with
        | none => rw [ea] at hr'; exact (show False from hr').elim
        | some ds =>
          cases eb : h[b]? with
          | none => rw [ea, eb] at hr'; exact (show False from hr').elim
          | some es =>
            rw [ea, eb] at hr'
            have hr2 : Run g ρ H (ke Q) (match catO ds es with | some fs => newL h fs | none => .no) := hr'
            cases c : catO ds es with
            | none => rw [c] at hr2; exact (show False from hr2).elim
            | some fs =>
              rw [c] at hr2
              obtain ⟨z, rfl⟩ := catO_ok c
              obtain ⟨p, vs, rfl, _, hp, ra⟩ := sim.lst rd ea
              obtain ⟨q, ws, rfl, _, hq, rb⟩ := sim.lst re eb
              exact op_cat pins s σ H _ _ v u Q I rx ry ⟨p, q, vs, ws, rfl, rfl, hp, hq, by rw [← ra.length, ← rb.length]; exact z, fun p' n => Run.newL hr2 sim (ra.append rb) n⟩
      | _ => exact (show False from hr).elim
    | _ => exact (show False from hr).elim
  | sub =>
    cases d with
    | int i =>
      cases e with
      | int j =>
        obtain rfl := rd.int
        obtain rfl := re.int
        exact op_sub pins s σ H _ _ v u Q I rx ry ⟨i, j, rfl, rfl, hr.mk sim (.pure (.int _))⟩
      | _ => exact (show False from hr).elim
    | _ => exact (show False from hr).elim
  | mul =>
    cases d with
    | int i =>
      cases e with
      | int j =>
        obtain rfl := rd.int
        obtain rfl := re.int
        have hr' : Run g ρ H (ke Q) (match mulOk i j with | true => .ok (.int (i * j)) h | false => .no) := hr
        cases c : mulOk i j with
        | false => rw [c] at hr'; exact (show False from hr').elim
        | true =>
          rw [c] at hr'
          obtain ⟨t, rfl⟩ := rx
          obtain ⟨t', rfl⟩ := ry
          exact mul_int ⟨.int (i * j), H, I.tok _, ⟨_, rfl⟩, hr'.mk sim (.pure (.int _))⟩ (mulOk_ok c)
      | _ => exact (show False from hr).elim
    | tup ds =>
      cases e with
      | int k =>
        obtain ⟨a, vs, rfl, qa, ra⟩ := rd.tup
        obtain rfl := re.int
        have hr' : Run g ρ H (ke Q) (match repO ds k with | some fs => .ok (.tup fs) h | none => .no) := hr
        cases c : repO ds k with
        | none => rw [c] at hr'; exact (show False from hr').elim
        | some fs =>
          rw [c] at hr'
          obtain ⟨z, zk, rfl⟩ := repO_ok c
          have r := ra.rep k.toNat
          have qa0 := qa.t
          rw [← hK] at qa0
          exact op_repTA pins s σ H _ _ v u Q I rx ry ⟨a, k, vs, rfl, rfl, qa0, zk, by rw [← ra.length]; exact z, fun e0 => hr'.mk sim (.pure (.tup qa (by rw [e0] at r; exact r))), hr'.newTP sim r⟩
      | _ => exact (show False from hr).elim
    | ptr a =>
      cases e with
      | int k =>
        obtain rfl := re.int
        have hr' : Run g ρ H (ke Q) (match h[a]? with | some ds => (match repO ds k with | some fs => newL h fs | none => .no) | none => .no) := hr
        cases ea : h[a]? with
        | none => rw [ea] at hr'; exact (show False from hr').elim
        | some ds =>
          rw [ea] at hr'
          have hr2 : Run g ρ H (ke Q) (match repO ds k with | some fs => newL h fs | none => .no) := hr'
          cases c : repO ds k with
          | none => rw [c] at hr2; exact (show False from hr2).elim
          | some fs =>
            rw [c] at hr2
            obtain ⟨z, zk, rfl⟩ := repO_ok c
            obtain ⟨p, vs, rfl, _, hp, ra⟩ := sim.lst rd ea
            exact op_rep pins s σ H _ _ v u Q I rx ry ⟨p, k, vs, rfl, rfl, hp, by omega, by omega, by rw [← ra.length]; exact z, fun p' n => Run.newL hr2 sim (ra.rep k.toNat) n⟩
      | _ => exact (show False from hr).elim
    | _ => exact (show False from hr).elim
  | mod =>
    cases d with
    | int i =>
      cases e with
      | int j =>
        obtain rfl := rd.int
        obtain rfl := re.int
        have hr' : Run g ρ H (ke Q) (match posI j with | true => .ok (.int (i % j)) h | false => .no) := hr
        cases c : posI j with
        | false => rw [c] at hr'; exact (show False from hr').elim
        | true =>
          rw [c] at hr'
          exact op_mod pins s σ H _ _ v u Q I rx ry ⟨i, j, rfl, rfl, posI_ok c, hr'.mk sim (.pure (.int _))⟩
      | _ => exact (show False from hr).elim
    | _ => exact (show False from hr).elim
  | fdiv =>
    cases d with
    | int i =>
      cases e with
      | int j =>
        obtain rfl := rd.int
        obtain rfl := re.int
        have hr' : Run g ρ H (ke Q) (match divOk j with | true => .ok (.int (i / j)) h | false => .no) := hr
        cases c : divOk j with
        | false => rw [c] at hr'; exact (show False from hr').elim
        | true =>
          rw [c] at hr'
          exact op_fdivW pins s σ H _ _ v u Q I rx ry ⟨i, j, rfl, rfl, divOk_ok c, hr'.mk sim (.pure (.int _))⟩
      | _ => exact (show False from hr).elim
    | _ => exact (show False from hr).elim
  | pow =>
    cases d with
    | int i =>
      cases e with
      | int j =>
        obtain rfl := rd.int
        obtain rfl := re.int
        have hr' : Run g ρ H (ke Q) (match powOk i j with | true => .ok (.int (i ^ j.toNat)) h | false => .no) := hr
        cases c : powOk i j with
        | false => rw [c] at hr'; exact (show False from hr').elim
        | true =>
          rw [c] at hr'
          exact op_powE pins s σ H _ _ v u Q I rx ry ⟨i, j, rfl, rfl, c, hr'.mk sim (.pure (.int _))⟩
      | _ => exact (show False from hr).elim
    | _ => exact (show False from hr).elim
end
end Ev
-- EvF
/-! comparisons, truth, indices, slices, built-ins -/
namespace Ev
open PySem PySem.Spec PyProof.Rows L2
theorem mapO_cons {f : D → Option PyData} {d : D} {ds : List D} {ps : List PyData} (h : mapO f (d :: ds) = some ps) : ∃ p qs, f d = some p ∧ mapO f ds = some qs ∧ ps = p :: qs := by
  unfold mapO at h
  cases e : f d with
  | none => rw [e] at h; cases h
  | some p =>
    rw [e] at h
    cases e2 : mapO f ds with
    | none => rw [e2] at h; cases h
    | some qs =>
      rw [e2] at h
      exact ⟨p, qs, rfl, rfl, (Option.some.inj h).symm⟩
section
variable {g : G} {ρ : List Addr} {H : Hp} {h : Hh}
theorem depthAll_cons (p : PyData) (ps : List PyData) : PyData.depthAll (p :: ps) = max (PyData.depth p) (PyData.depthAll ps) := rfl
theorem mapO_dp {n : Nat} (ih : ∀ (d : D) (v : V) (p : PyData), Rep g ρ H d v → py h n d = some p → Dp g.K H v p ∧ p.depth ≤ n) :
    ∀ {ds : List D} {vs : List V} {ps : List PyData}, Reps g ρ H ds vs → mapO (py h n) ds = some ps → DpAll g.K H vs ps ∧ PyData.depthAll ps ≤ n
  | _, _, _, .nil, e => by
    cases e
    exact ⟨.nil, Nat.zero_le _⟩
  | _, _, _, .cons r s, e => by
    obtain ⟨p, qs, e1, e2, rfl⟩ := mapO_cons e
    obtain ⟨a1, a2⟩ := ih _ _ _ r e1
    obtain ⟨b1, b2⟩ := mapO_dp ih s e2
    exact ⟨.cons a1 b1, by rw [depthAll_cons]; omega⟩
theorem py_dp (sim : Sim g ρ h H) : ∀ (n : Nat) (d : D) (v : V) (p : PyData), Rep g ρ H d v → py h n d = some p → Dp g.K H v p ∧ p.depth ≤ n
  | 0, d, v, p, _, e => by cases e
  | n + 1, d, v, p, r, e => by
    have ih := py_dp sim n
    unfold py at e
    cases r with
    | pure r =>
      cases r with
      | non => cases e; exact ⟨.non, Nat.zero_le _⟩
      | bl b => cases e; exact ⟨.bl b, Nat.zero_le _⟩
      | int i => cases e; exact ⟨.int i, Nat.zero_le _⟩
      | str x => cases e; exact ⟨.str x, Nat.zero_le _⟩
      | ty n => cases e
      | fn n => cases e
      | emp hp => cases e
      | @tup a vs ds q rr =>
        dsimp only at e
        cases c : mapO (py h n) ds with
        | none => rw [c] at e; cases e
        | some ps =>
          rw [c] at e
          cases e
          obtain ⟨a1, a2⟩ := mapO_dp ih rr.reps c
          exact ⟨.tup q.t a1, Nat.succ_le_succ a2⟩
      | @frl a vs ds q rr =>
        dsimp only at e
        cases c : mapO (py h n) ds with
        | none => rw [c] at e; cases e
        | some ps =>
          rw [c] at e
          cases e
          obtain ⟨a1, a2⟩ := mapO_dp ih rr.reps c
          exact ⟨.lst q.seq a1, Nat.succ_le_succ a2⟩
    | @ptr a p' z =>
      dsimp only at e
      cases c0 : h[a]? with
      | none => rw [c0] at e; cases e
      | some ds =>
        rw [c0] at e
        dsimp only at e
        cases c : mapO (py h n) ds with
        | none => rw [c] at e; cases e
        | some ps =>
          rw [c] at e
          cases e
          obtain ⟨vs, h1, h2⟩ := sim.get c0 z
          obtain ⟨a1, a2⟩ := mapO_dp ih h2 c
          exact ⟨.lst (SqL.of h1) a1, Nat.succ_le_succ a2⟩
    | @mtp a vs ds q rr =>
      dsimp only at e
      cases c : mapO (py h n) ds with
      | none => rw [c] at e; cases e
      | some ps =>
        rw [c] at e
        cases e
        obtain ⟨a1, a2⟩ := mapO_dp ih rr c
        exact ⟨.tup q.t a1, Nat.succ_le_succ a2⟩
theorem pyEq_ok {d e : D} {x y : V} {b : Bool} (sim : Sim g ρ h H) (rd : Rep g ρ H d x) (re : Rep g ρ H e y) (c : pyEq h d e = some b) :
    ∃ p q, Dp g.K H x p ∧ Dp g.K H y q ∧ SeqAt.shaped p = true ∧ SeqAt.shaped q = true ∧ PyData.eqv p q = b := by
  unfold pyEq at c
  cases c1 : py h 20 d with
  | none => rw [c1] at c; cases c
  | some p =>
    cases c2 : py h 20 e with
    | none => rw [c1, c2] at c; cases c
    | some q =>
      rw [c1, c2] at c
      dsimp only at c
      cases c3 : p.canLay0 && q.canLay0 with
      | false => rw [c3] at c; cases c
      | true =>
        rw [c3] at c
        obtain ⟨l1, l2⟩ := Bool.and_eq_true_iff.mp c3
        obtain ⟨a1, a2⟩ := py_dp sim 20 d x p rd c1
        obtain ⟨b1, b2⟩ := py_dp sim 20 e y q re c2
        exact ⟨p, q, a1, b1, Bool.and_eq_true_iff.mpr ⟨l1, decide_eq_true (by omega)⟩, Bool.and_eq_true_iff.mpr ⟨l2, decide_eq_true (by omega)⟩, Option.some.inj c⟩
theorem flat_of {d : D} {v : V} (r : Rep g ρ H d v) (f : flatD d = true) : flatV v = true := by
  cases r with
  | pure r => cases r <;> first | rfl | cases f
  | ptr _ => cases f
  | mtp _ _ => cases f
theorem flats_of : ∀ {ds : List D} {vs : List V}, Reps g ρ H ds vs → ds.all flatD = true → vs.all flatV = true
  | _, _, .nil, _ => rfl
  | _, _, .cons r s, f => by
    rw [List.all_cons, Bool.and_eq_true_iff] at f ⊢
    exact ⟨flat_of r f.1, flats_of s f.2⟩
theorem flatE_of {d e : D} {v w : V} (rd : Rep g ρ H d v) (re : Rep g ρ H e w) (fd : flatD d = true) (fe : flatD e = true) : eqV v w = flatE d e := by
  cases rd with
  | pure rd =>
    cases re with
    | pure re =>
      cases rd <;> cases re <;> first | rfl | cases fd | cases fe
    | ptr _ => cases fe
    | mtp _ _ => cases fe
  | ptr _ => cases fd
  | mtp _ _ => cases fd
theorem flatEs_of {d : D} {v : V} (rd : Rep g ρ H d v) (fd : flatD d = true) : ∀ {ds : List D} {vs : List V}, Reps g ρ H ds vs → ds.all flatD = true → inV v vs = ds.any fun y => flatE y d
  | _, _, .nil, _ => rfl
  | _, _, .cons r s, f => by
    rw [List.all_cons, Bool.and_eq_true_iff] at f
    have ih := flatEs_of rd fd s f.2
    unfold inV at ih ⊢
    rw [List.any_cons, List.any_cons, ih, flatE_of r rd f.1 fd]
def copOf : COp → CmpOp
  | .eq => .Eq
  | .ne => .NotEq
  | .lt => .Lt
  | .le => .LtE
  | .gt => .Gt
  | .ge => .GtE
  | .inn => .In
  | .nin => .NotIn
  | .isN => .Is
  | .notN => .IsNot
theorem copB_ok {o : COp} {p : CmpOp} (h : copB o p = true) : p = copOf o := by
  cases o <;> cases p <;> first | rfl | cases h
def rCop (g : G) (o : COp) : R2 := fun x y H Q => ∃ (ρ : List Addr) (h : Hh) (d e : D), Sim g ρ h H ∧ Rep g ρ H d x ∧ Rep g ρ H e y ∧ Run g ρ H (ke Q) (cmpop o d e h)
theorem Run.oB {o : Option Bool} {f : Bool → Bool} {Q : VK} (hr : Run g ρ H (ke Q) (oB o f h)) (sim : Sim g ρ h H) : ∃ b, o = some b ∧ Q (.bl (f b)) H := by
  cases o with
  | none => exact (show False from hr).elim
  | some b => exact ⟨b, rfl, Run.mk (show Run g ρ H (ke Q) (.ok (.bl (f b)) h) from hr) sim (.pure (.bl _))⟩
theorem Run.intI {d e : D} {x y : V} {f : Int → Int → Bool} {Q : VK} (hr : Run g ρ H (ke Q) (intI d e f h)) (sim : Sim g ρ h H) (rd : Rep g ρ H d x) (re : Rep g ρ H e y) : ∃ i j, x = .int i ∧ y = .int j ∧ Q (.bl (f i j)) H := by
  cases d with
  | int i =>
    cases e with
    | int j => exact ⟨i, j, rd.int, re.int, Run.mk (show Run g ρ H (ke Q) (.ok (.bl (f i j)) h) from hr) sim (.pure (.bl _))⟩
    | _ => exact (show False from hr).elim
  | _ => exact (show False from hr).elim
theorem isNon_ok {d : D} {v : V} {b : Bool} (r : Rep g ρ H d v) (e : isNon d = some b) : decide (v = .non) = b := by
  cases r with
  | pure r => cases r <;> first | (cases e; rfl) | (cases e; simp)
  | ptr _ => cases e; simp
  | mtp _ _ => cases e; simp
theorem memH_ok {d e : D} {x y : V} {b : Bool} (sim : Sim g ρ h H) (rd : Rep g ρ H d x) (re : Rep g ρ H e y) (c : memH h d e = some b) :
    ∃ (p : Addr) (xs : List V), y = .ref p ∧ (SqL g.K H p xs ∨ SqT g.K H p xs) ∧ flatV x = true ∧ xs.all flatV = true ∧ inV x xs = b := by
  unfold memH at c
  cases c1 : flatD d with
  | false => rw [c1] at c; cases c
  | true =>
    cases c2 : itemsOf h e with
    | none => rw [c1, c2] at c; cases c
    | some ds =>
      rw [c1, c2] at c
      dsimp only at c
      cases c3 : ds.all flatD with
      | false => rw [c3] at c; cases c
      | true =>
        rw [c3] at c
        obtain ⟨a, vs, rfl, q, rr⟩ := items_seq sim re c2
        refine ⟨a, vs, rfl, q, flat_of rd c1, flats_of rr c3, ?_⟩
        rw [flatEs_of rd c1 rr c3]
        exact Option.some.inj c
end
section
variable {g : G}
theorem op_cop {X : Cx} (hK : X.K = g.K) (hu : X.A.units + 64 < cLine) (o : COp) : OpR X (compareOp (copOf o)) (rCop g o) := by
  intro pins s σ H x y v u Q I rx ry hr
  obtain ⟨ρ, h, d, e, sim, rd, re, hr⟩ := hr
  cases o with
  | eq =>
    obtain ⟨b, eb, q⟩ := Run.oB (f := fun b => b) (h := h) hr sim
    obtain ⟨p, p', a1, a2, a3, a4, a5⟩ := pyEq_ok sim rd re eb
    rw [← hK] at a1 a2
    exact op_eqD hu pins s σ H x y v u Q I rx ry ⟨p, p', a1, a2, a3, a4, by rw [a5]; exact q⟩
  | ne =>
    obtain ⟨b, eb, q⟩ := Run.oB (f := fun b => !b) (h := h) hr sim
    obtain ⟨p, p', a1, a2, a3, a4, a5⟩ := pyEq_ok sim rd re eb
    rw [← hK] at a1 a2
    exact op_neD hu pins s σ H x y v u Q I rx ry ⟨p, p', a1, a2, a3, a4, by rw [a5]; exact q⟩
  | lt => exact op_lt pins s σ H x y v u Q I rx ry (Run.intI (f := fun i j => decide (i < j)) (h := h) hr sim rd re)
  | le => exact op_le pins s σ H x y v u Q I rx ry (Run.intI (f := fun i j => decide (i ≤ j)) (h := h) hr sim rd re)
  | gt => exact op_gt pins s σ H x y v u Q I rx ry (Run.intI (f := fun i j => decide (j < i)) (h := h) hr sim rd re)
  | ge => exact op_ge pins s σ H x y v u Q I rx ry (Run.intI (f := fun i j => decide (j ≤ i)) (h := h) hr sim rd re)
  | inn =>
    obtain ⟨b, eb, q⟩ := Run.oB (f := fun b => b) (h := h) hr sim
    obtain ⟨p, xs, a1, a2, a3, a4, a5⟩ := memH_ok sim rd re eb
    rw [← hK] at a2
    exact op_in_seq pins s σ H x y v u Q I rx ry ⟨p, xs, a1, a2, a3, a4, by rw [a5]; exact q⟩
  | nin =>
    obtain ⟨b, eb, q⟩ := Run.oB (f := fun b => !b) (h := h) hr sim
    obtain ⟨p, xs, a1, a2, a3, a4, a5⟩ := memH_ok sim rd re eb
    rw [← hK] at a2
    exact op_notIn_seq pins s σ H x y v u Q I rx ry ⟨p, xs, a1, a2, a3, a4, by rw [a5]; exact q⟩
  | isN =>
    cases e with
    | non =>
      obtain ⟨b, eb, q⟩ := Run.oB (f := fun b => b) (h := h) hr sim
      exact op_isN pins s σ H x y v u Q I rx ry ⟨re.non, by rw [isNon_ok rd eb]; exact q⟩
    | _ => exact (show False from hr).elim
  | notN =>
    cases e with
    | non =>
      obtain ⟨b, eb, q⟩ := Run.oB (f := fun b => !b) (h := h) hr sim
      exact op_notN pins s σ H x y v u Q I rx ry ⟨re.non, by rw [isNon_ok rd eb]; exact q⟩
    | _ => exact (show False from hr).elim
end
/-! truth -/
section
variable {g : G} {ρ : List Addr} {H : Hp} {h : Hh}
theorem Reps.emptyL {ds : List D} {vs : List V} (r : Reps g ρ H ds vs) : (!ds.isEmpty) = !vs.isEmpty := by
  cases r <;> rfl
theorem tru_ok' {d : D} {v : V} {b : Bool} (sim : Sim g ρ h H) (r : Rep g ρ H d v) (e : tru h d = some b) : TruV g.K v H b := by
  cases r with
  | pure r =>
    cases r with
    | non => exact (Option.some.inj e).symm
    | bl b => exact (Option.some.inj e).symm
    | int i => exact (Option.some.inj e).symm
    | str x => cases e
    | ty n => cases e
    | fn f => cases e
    | emp hp => cases e
    | tup q rr => exact .inr (.inl ⟨_, q.t, by rw [← (rr.reps (ρ := ρ)).emptyL]; exact (Option.some.inj e).symm⟩)
    | frl q rr => exact .inl ⟨_, q.seq, by rw [← (rr.reps (ρ := ρ)).emptyL]; exact (Option.some.inj e).symm⟩
  | @ptr a p z =>
    unfold tru at e
    dsimp only at e
    cases c : h[a]? with
    | none => rw [c] at e; cases e
    | some ds =>
      rw [c] at e
      obtain ⟨vs, h1, h2⟩ := sim.get c z
      exact .inl ⟨vs, SqL.of h1, by rw [← h2.emptyL]; exact (Option.some.inj e).symm⟩
  | mtp q rr => exact .inr (.inl ⟨_, q.t, by rw [← rr.emptyL]; exact (Option.some.inj e).symm⟩)
end
/-! indices -/
theorem ixN_ok {n j : Nat} {k : Int} (h : ixN n k = some j) : L2.ixN n k = some j := by
  unfold Ev.ixN at h
  unfold L2.ixN
  cases k with
  | ofNat k =>
    dsimp only at h
    cases c : Nat.blt k n with
    | false => rw [c] at h; cases h
    | true =>
      rw [c] at h
      have := Nat.le_of_ble_eq_true (show Nat.ble (k + 1) n = true from c)
      have ek : k = j := Option.some.inj h
      subst ek
      rw [if_pos (by exact Int.natCast_nonneg k), if_pos (by exact Int.ofNat_lt.mpr this)]
      rfl
  | negSucc k =>
    dsimp only at h
    cases c : Nat.blt k n with
    | false => rw [c] at h; cases h
    | true =>
      rw [c] at h
      have := Nat.le_of_ble_eq_true (show Nat.ble (k + 1) n = true from c)
      have ek : n - (k + 1) = j := Option.some.inj h
      subst ek
      rw [if_neg (by omega), if_pos (by omega)]
      congr 1
      omega
theorem clip_ok (n d : Nat) (o : Option Int) : clip n d o = HT.sIx n d o := by
  cases o with
  | none => rfl
  | some k =>
    cases k with
    | ofNat k =>
      show min k n = _
      rw [show (Int.ofNat k) = ((k : Nat) : Int) from rfl, HT.sIx_nat]
    | negSucc k =>
      show n - (k + 1) = _
      have := HT.clip_eq (Int.negSucc k) n d
      rw [if_pos (by omega)] at this
      omega
section
variable {g : G}
theorem RepPs.get {H : Hp} : ∀ {ds : List D} {vs : List V} {i : Nat} {d : D}, RepPs g H ds vs → ds[i]? = some d → ∃ v, vs[i]? = some v ∧ RepP g H d v
  | _, _, _, _, .nil, e => by simp at e
  | _, _, 0, _, .cons r _, e => by simp at e; subst e; exact ⟨_, rfl, r⟩
  | _, _, i + 1, d, .cons _ s, e => by
    obtain ⟨v, h1, h2⟩ := RepPs.get (i := i) (d := d) s (by simpa using e)
    exact ⟨v, by simpa using h1, h2⟩
def rIdx (g : G) : R2 := fun x y H Q => ∃ (ρ : List Addr) (h : Hh) (d e : D), Sim g ρ h H ∧ Rep g ρ H d x ∧ Rep g ρ H e y ∧ Run g ρ H (ke Q) (index d e h)
theorem index_inv {ρ : List Addr} {H : Hp} {h : Hh} {d e : D} {x y : V} {Q : VK} (sim : Sim g ρ h H) (rd : Rep g ρ H d x) (re : Rep g ρ H e y) (hr : Run g ρ H (ke Q) (index d e h)) :
    ∃ (a : Addr) (vs : List V) (k : Int) (v : V), x = .ref a ∧ y = .int k ∧ (SqL g.K H a vs ∨ SqT g.K H a vs) ∧ atI vs k = some v ∧ Q v H := by
  cases e with
  | int k =>
    unfold index at hr
    dsimp only at hr
    cases c1 : itemsOf h d with
    | none => rw [c1] at hr; exact (show False from hr).elim
    | some ds =>
      rw [c1] at hr
      dsimp only at hr
      cases c2 : ixN ds.length k with
      | none => rw [c2] at hr; exact (show False from hr).elim
      | some j =>
        rw [c2] at hr
        dsimp only at hr
        cases c3 : ds[j]? with
        | none => rw [c3] at hr; exact (show False from hr).elim
        | some z =>
          rw [c3] at hr
          obtain ⟨a, vs, rfl, q, rr⟩ := items_seq sim rd c1
          obtain ⟨w, hw, rw'⟩ := rr.get c3
          refine ⟨a, vs, k, w, rfl, re.int, q, ?_, hr.mk sim rw'⟩
          unfold atI
          rw [← rr.length, ixN_ok c2]
          exact hw
  | _ => exact (show False from hr).elim
theorem ix_idx {X : Cx} (hK : X.K = g.K) : IxR X (rIdx g) := by
  intro value slice pins s σ H x y v u Q I rx ry hr hs
  obtain ⟨ρ, h, d, e, sim, rd, re, hr⟩ := hr
  obtain ⟨a, vs, k, z, rfl, rfl, q, at_, hQ⟩ := index_inv sim rd re hr
  rw [← hK] at q
  rcases q with q | q
  · exact ix_list value slice pins s σ H _ _ v u Q I rx ry ⟨a, vs, k, z, rfl, rfl, q, at_, hQ⟩ hs
  · exact ix_tup value slice pins s σ H _ _ v u Q I rx ry ⟨a, vs, k, z, rfl, rfl, q, at_, hQ⟩ hs
theorem cut_length (ds : List D) (lo hi : Option Int) {vs : List V} (e : ds.length = vs.length) : cut ds lo hi = (ds.drop (HT.sIx vs.length 0 lo)).take (HT.sIx vs.length vs.length hi - HT.sIx vs.length 0 lo) := by
  unfold cut
  rw [clip_ok, clip_ok, e]
def rSlice (g : G) (l u : D) : V → Option Int → Option Int → Hp → VK → Prop := fun x lo hi H Q => ∃ (ρ : List Addr) (h : Hh) (d : D), Sim g ρ h H ∧ Rep g ρ H d x ∧ part l = some lo ∧ part u = some hi ∧ Run g ρ H (ke Q) (slice d l u h)
theorem sl_sl {X : Cx} (hK : X.K = g.K) (l u : D) : SlR X (rSlice g l u) := by
  intro pins s σ H x v vl vu lo hi sl Q I rx hs pl pu hr
  obtain ⟨ρ, h, d, sim, rd, el, eu, hr⟩ := hr
  unfold slice at hr
  rw [el, eu] at hr
  dsimp only at hr
  cases d with
  | tup ds =>
    obtain ⟨a, vs, rfl, q, rr⟩ := rd.tup
    have e := cut_length ds lo hi rr.length
    have r2 : RepPs g H (cut ds lo hi) (cutV vs lo hi) := by
      rw [e]
      exact (rr.drop _).take _
    have q0 := q
    have q := q.t
    rw [← hK] at q
    refine sl_tupN pins s σ H _ v vl vu lo hi sl Q I rx hs pl pu ⟨a, vs, rfl, q, fun ⟨z1, z2⟩ => ?_, fun _ => hr.newTP sim r2⟩
    have e2 : cutV vs lo hi = vs := by
      unfold cutV
      rw [z1, z2]
      simp
    rw [e2] at r2
    exact hr.mk sim (.pure (.tup q0 r2))
  | ptr a =>
    dsimp only at hr
    cases c : h[a]? with
    | none => rw [c] at hr; exact (show False from hr).elim
    | some ds =>
      rw [c] at hr
      obtain ⟨p, vs, rfl, _, hp, rr⟩ := sim.lst rd c
      have e := cut_length ds lo hi rr.length
      have r2 : Reps g ρ H (cut ds lo hi) (cutV vs lo hi) := by
        rw [e]
        exact (rr.drop _).take _
      exact sl_list pins s σ H _ v vl vu lo hi sl Q I rx hs pl pu ⟨p, vs, rfl, SqL.of hp, fun p' n => Run.newL hr sim r2 n⟩
  | frl ds =>
    cases rd with
    | pure rd =>
      cases rd with
      | @frl a vs _ q rr =>
        have e := cut_length ds lo hi rr.length
        have r2 : RepPs g H (cut ds lo hi) (cutV vs lo hi) := by
          rw [e]
          exact (rr.drop _).take _
        have q0 := q.seq
        rw [← hK] at q0
        exact sl_list pins s σ H _ v vl vu lo hi sl Q I rx hs pl pu ⟨a, vs, rfl, q0, fun p' n => Run.newL hr sim r2.reps n⟩
  | _ => exact (show False from hr).elim
end
end Ev
-- EvG
/-! built-ins -/
namespace Ev
open PySem PySem.Spec PyProof.Rows L2
section
variable {g : G} {ρ : List Addr} {H : Hp} {h : Hh}
theorem ints_ok : ∀ {ds : List D} {is : List Int} {vs : List V}, intsD ds = some is → Reps g ρ H ds vs → vs = is.map V.int
  | [], _, _, e, .nil => by cases e; rfl
  | .int i :: ds, is, _, e, .cons r s => by
    unfold intsD at e
    cases c : intsD ds with
    | none => rw [c] at e; cases e
    | some js =>
      rw [c] at e
      cases e
      rw [r.int, ints_ok c s]
      rfl
  | .una :: _, _, _, e, _ => by cases e
  | .non :: _, _, _, e, _ => by cases e
  | .bl _ :: _, _, _, e, _ => by cases e
  | .str _ :: _, _, _, e, _ => by cases e
  | .ty _ :: _, _, _, e, _ => by cases e
  | .tup _ :: _, _, _, e, _ => by cases e
  | .frl _ :: _, _, _, e, _ => by cases e
  | .fn _ :: _, _, _, e, _ => by cases e
  | .ptr _ :: _, _, _, e, _ => by cases e
  | .mtp _ :: _, _, _, e, _ => by cases e
theorem bls_ok : ∀ {ds : List D} {is : List Bool} {vs : List V}, bls ds = some is → Reps g ρ H ds vs → vs = is.map V.bl
  | [], _, _, e, .nil => by cases e; rfl
  | .bl i :: ds, is, _, e, .cons r s => by
    unfold bls at e
    cases c : bls ds with
    | none => rw [c] at e; cases e
    | some js =>
      rw [c] at e
      cases e
      rw [r.bl, bls_ok c s]
      rfl
  | .una :: _, _, _, e, _ => by cases e
  | .non :: _, _, _, e, _ => by cases e
  | .int _ :: _, _, _, e, _ => by cases e
  | .str _ :: _, _, _, e, _ => by cases e
  | .ty _ :: _, _, _, e, _ => by cases e
  | .tup _ :: _, _, _, e, _ => by cases e
  | .frl _ :: _, _, _, e, _ => by cases e
  | .fn _ :: _, _, _, e, _ => by cases e
  | .ptr _ :: _, _, _, e, _ => by cases e
  | .mtp _ :: _, _, _, e, _ => by cases e
theorem Reps.one {d : D} {vs : List V} (r : Reps g ρ H [d] vs) : ∃ v, vs = [v] ∧ Rep g ρ H d v := by
  cases r with
  | cons r s => cases s; exact ⟨_, rfl, r⟩
theorem Reps.two {d e : D} {vs : List V} (r : Reps g ρ H [d, e] vs) : ∃ v w, vs = [v, w] ∧ Rep g ρ H d v ∧ Rep g ρ H e w := by
  cases r with
  | cons r s => cases s with
    | cons r2 s => cases s; exact ⟨_, _, rfl, r, r2⟩
def tyIs (T : String) : D → Bool
  | .int _ => T == "int"
  | .bl _ => T == "int" || T == "bool"
  | .tup _ => T == "tuple"
  | .mtp _ => T == "tuple"
  | _ => false
/-- which type a known value has -/
theorem isi_val {X : Cx} {pins : List (Addr × Obj)} {σ : L2.St} {s : Shared} {A : Around} {E : Value → Shared → Prop} {Q : Value → Shared → Prop} {d : D} {v : V} {u : Value} {T : String} (hK : X.K = g.K) (I : Inv X pins σ H s) (sim : Sim g ρ h H) (r : Rep g ρ H d v) (ru : RelV v u) (kn : known d = true)
    (hT : T = "int" ∨ T = "bool" ∨ T = "tuple") {b : Bool} (hb : b = tyIs T d) (q : ∀ tk, Q (.bool b) { s with toks := tk }) :
    wpAny (model X.prog X.w) A (call (.builtin "isinstance") [u, .type T]) Q E s := by
  have go : ∀ {t : Value}, TyOf X.K H v t → PySem.W.kitOne X.K t (.type T) = some b → wpAny (model X.prog X.w) A (call (.builtin "isinstance") [u, .type T]) Q E s := fun ty e => isinst_ok I ru ty e q
  have tup : ∀ {a : Addr} {vs : List V}, v = .ref a → SqT g.K H a vs → PySem.W.kitOne X.K (.type "tuple") (.type T) = some b → wpAny (model X.prog X.w) A (call (.builtin "isinstance") [u, .type T]) Q E s := fun {a vs} ev st e => by
    subst ev
    cases (show u = Value.ref a from ru)
    rw [← hK] at st
    obtain ⟨its, _, ⟨o, h1, h2, _⟩, _⟩ := I.tuple st
    exact PySem.W.kia_one PySem.W.kitx_tuple I.kIn ⟨o, h1, h2⟩ e (fun z => nomatch z) q
  have lst : ∀ {a : Addr} {vs : List V}, v = .ref a → SqL g.K H a vs → PySem.W.kitOne X.K (.type "list") (.type T) = some b → wpAny (model X.prog X.w) A (call (.builtin "isinstance") [u, .type T]) Q E s := fun {a vs} ev st e => by
    subst ev
    cases (show u = Value.ref a from ru)
    rw [← hK] at st
    obtain ⟨its, _, pl, _⟩ := I.list st
    obtain ⟨o, h1, h2, _⟩ := pl.isList
    exact PySem.W.kia_one PySem.W.kitx_list I.kIn ⟨o, h1, h2⟩ e (fun z => nomatch z) q
  cases r with
  | pure r =>
    cases r with
    | frl st _ => subst hb; rcases hT with rfl | rfl | rfl <;> exact lst rfl st.seq (kit_ty (by first | (show kitB _ _ = some true; decide +kernel) | (show kitB _ _ = some false; decide +kernel)))
    | non => subst hb; rcases hT with rfl | rfl | rfl <;> exact go .non (kit_ty (by first | (show kitB _ _ = some true; decide +kernel) | (show kitB _ _ = some false; decide +kernel)))
    | bl _ => subst hb; rcases hT with rfl | rfl | rfl <;> exact go (.bl _) (kit_ty (by first | (show kitB _ _ = some true; decide +kernel) | (show kitB _ _ = some false; decide +kernel)))
    | int _ => subst hb; rcases hT with rfl | rfl | rfl <;> exact go (.int _) (kit_ty (by first | (show kitB _ _ = some true; decide +kernel) | (show kitB _ _ = some false; decide +kernel)))
    | str _ => subst hb; rcases hT with rfl | rfl | rfl <;> exact go (.str _) (kit_ty (by first | (show kitB _ _ = some true; decide +kernel) | (show kitB _ _ = some false; decide +kernel)))
    | tup st _ => subst hb; rcases hT with rfl | rfl | rfl <;> exact tup rfl st.t (kit_ty (by first | (show kitB _ _ = some true; decide +kernel) | (show kitB _ _ = some false; decide +kernel)))
    | emp hp => subst hb; rcases hT with rfl | rfl | rfl <;> exact go (.dK hp) (kit_ty (by first | (show kitB _ _ = some true; decide +kernel) | (show kitB _ _ = some false; decide +kernel)))
    | _ => cases kn
  | @ptr n p z =>
    have hp : ∃ vs, H p = some (.lst vs) := by
      have hl : n < h.length := by rw [← sim.len]; exact (List.getElem?_eq_some_iff.mp z).1
      obtain ⟨vs, h1, _⟩ := sim.get (show h[n]? = some h[n] by simp [hl]) z
      exact ⟨vs, h1⟩
    obtain ⟨vs, hp⟩ := hp
    subst hb; rcases hT with rfl | rfl | rfl <;> exact go (.lst hp) (kit_ty (by first | (show kitB _ _ = some true; decide +kernel) | (show kitB _ _ = some false; decide +kernel)))
  | mtp st _ => subst hb; rcases hT with rfl | rfl | rfl <;> exact tup rfl st.t (kit_ty (by first | (show kitB _ _ = some true; decide +kernel) | (show kitB _ _ = some false; decide +kernel)))
end
section
variable {g : G}
def rBi (g : G) (b : Bi) : List V → Hp → VK → Prop := fun xs H Q => ∃ (ρ : List Addr) (h : Hh) (ds : List D), Sim g ρ h H ∧ Reps g ρ H ds xs ∧ Run g ρ H (ke Q) (builtin b ds h)
theorem cr_len {X : Cx} (hK : X.K = g.K) : CallR X (.builtin "len") (rBi g .len) := by
  intro pins s σ H xs us Q I r hr
  obtain ⟨ρ, h, ds, sim, rr, hr⟩ := hr
  unfold builtin at hr
  match ds, rr, hr with
  | [d], rr, hr =>
    dsimp only at hr
    cases c : itemsOf h d with
    | none => rw [c] at hr; exact (show False from hr).elim
    | some es =>
      rw [c] at hr
      obtain ⟨v, rfl, rd⟩ := rr.one
      obtain ⟨a, vs, rfl, q, r2⟩ := items_seq sim rd c
      rw [← hK] at q
      refine call_len pins s σ H _ us Q I r ⟨_, vs.length, rfl, ?_, ?_⟩
      · rcases q with q | q
        · exact .inl ⟨vs, q, rfl⟩
        · exact .inr ⟨vs, q, rfl⟩
      · rw [← r2.length]
        exact hr.mk sim (.pure (.int _))
  | [], _, hr => exact (show False from hr).elim
  | _ :: _ :: _, _, hr => exact (show False from hr).elim
theorem cr_int {X : Cx} : CallR X (.type "int") (rBi g .int) := by
  intro pins s σ H xs us Q I r hr
  obtain ⟨ρ, h, ds, sim, rr, hr⟩ := hr
  unfold builtin at hr
  dsimp only at hr
  split at hr
  · obtain ⟨v, rfl, rd⟩ := rr.one
    obtain rfl := rd.int
    exact call_int1 pins s σ H _ us Q I r (.inl ⟨_, rfl, Run.mk hr sim (.pure (.int _))⟩)
  · obtain ⟨v, rfl, rd⟩ := rr.one
    obtain rfl := rd.bl
    exact call_int1 pins s σ H _ us Q I r (.inr ⟨_, rfl, Run.mk hr sim (.pure (.int _))⟩)
  · exact (show False from hr).elim
theorem inv_i1 {ρ : List Addr} {H : Hp} {h : Hh} {ds : List D} {xs : List V} {f : Int → D} {k : Kt}
    (hr : Run g ρ H k (match ds with | [.int i] => .ok (f i) h | _ => .no)) (rr : Reps g ρ H ds xs) : ∃ i, ds = [.int i] ∧ xs = [.int i] ∧ Run g ρ H k (.ok (f i) h) := by
  split at hr
  · obtain ⟨v, rfl, rd⟩ := rr.one
    obtain rfl := rd.int
    exact ⟨_, rfl, rfl, hr⟩
  · exact (show False from hr).elim
theorem inv_i2 {ρ : List Addr} {H : Hp} {h : Hh} {ds : List D} {xs : List V} {f : Int → Int → D} {k : Kt}
    (hr : Run g ρ H k (match ds with | [.int i, .int j] => .ok (f i j) h | _ => .no)) (rr : Reps g ρ H ds xs) : ∃ i j, ds = [.int i, .int j] ∧ xs = [.int i, .int j] ∧ Run g ρ H k (.ok (f i j) h) := by
  split at hr
  · obtain ⟨v, w, rfl, rd, re⟩ := rr.two
    obtain rfl := rd.int
    obtain rfl := re.int
    exact ⟨_, _, rfl, rfl, hr⟩
  · exact (show False from hr).elim
theorem cr_abs {X : Cx} : CallR X (.builtin "abs") (rBi g .abs) := by
  intro pins s σ H xs us Q I r hr
  obtain ⟨ρ, h, ds, sim, rr, hr⟩ := hr
  obtain ⟨i, rfl, rfl, hr⟩ := inv_i1 (f := fun i => .int (if i < 0 then -i else i)) hr rr
  exact call_abs pins s σ H _ us Q I r ⟨i, rfl, hr.mk sim (.pure (.int _))⟩
theorem cr_max2 {X : Cx} (hc : X.calm = true) : CallR X (.builtin "max") (rBi g .max2) := by
  intro pins s σ H xs us Q I r hr
  obtain ⟨ρ, h, ds, sim, rr, hr⟩ := hr
  obtain ⟨i, j, rfl, rfl, hr⟩ := inv_i2 (f := fun i j => .int (if j > i then j else i)) hr rr
  exact call_max2 hc pins s σ H _ us Q I r ⟨i, j, rfl, hr.mk sim (.pure (.int _))⟩
theorem cr_min2 {X : Cx} (hc : X.calm = true) : CallR X (.builtin "min") (rBi g .min2) := by
  intro pins s σ H xs us Q I r hr
  obtain ⟨ρ, h, ds, sim, rr, hr⟩ := hr
  obtain ⟨i, j, rfl, rfl, hr⟩ := inv_i2 (f := fun i j => .int (if j < i then j else i)) hr rr
  exact call_min2 hc pins s σ H _ us Q I r ⟨i, j, rfl, hr.mk sim (.pure (.int _))⟩
theorem inv_p {ρ : List Addr} {H : Hp} {h : Hh} {ds : List D} {xs : List V} {f : List D → R} {k : Kt} (sim : Sim g ρ h H)
    (hr : Run g ρ H k (match ds with | [.ptr a] => (match h[a]? with | some es => f es | none => .no) | _ => .no)) (rr : Reps g ρ H ds xs) :
    ∃ (p : Addr) (es : List D) (vs : List V), xs = [.ref p] ∧ H p = some (.lst vs) ∧ Reps g ρ H es vs ∧ Run g ρ H k (f es) := by
  split at hr
  · rename_i a
    cases c : h[a]? with
    | none => rw [c] at hr; exact (show False from hr).elim
    | some es =>
      rw [c] at hr
      obtain ⟨v, rfl, rd⟩ := rr.one
      obtain ⟨p, vs, rfl, _, hp, r2⟩ := sim.lst rd c
      exact ⟨p, es, vs, rfl, hp, r2, hr⟩
  · exact (show False from hr).elim
theorem cr_sumE {X : Cx} (hc : X.calm = true) : CallR X (.builtin "sum") (rBi g .sum) := by
  intro pins s σ H xs us Q I r hr
  obtain ⟨ρ, h, ds, sim, rr, hr⟩ := hr
  obtain ⟨p, es, vs, rfl, hp, r2, hr⟩ := inv_p (f := fun es => match intsD es with | some is => .ok (.int is.sum) h | none => .no) sim hr rr
  cases c : intsD es with
  | none => rw [c] at hr; exact (show False from hr).elim
  | some is =>
    rw [c] at hr
    obtain rfl := ints_ok c r2
    exact cr_sum hc pins s σ H _ us Q I r ⟨p, is, rfl, SqL.of hp, Run.mk hr sim (.pure (.int _))⟩
theorem cr_allE {X : Cx} (hc : X.calm = true) : CallR X (.builtin "all") (rBi g .all) := by
  intro pins s σ H xs us Q I r hr
  obtain ⟨ρ, h, ds, sim, rr, hr⟩ := hr
  obtain ⟨p, es, vs, rfl, hp, r2, hr⟩ := inv_p (f := fun es => match bls es with | some bs => .ok (.bl (bs.all id)) h | none => .no) sim hr rr
  cases c : bls es with
  | none => rw [c] at hr; exact (show False from hr).elim
  | some is =>
    rw [c] at hr
    obtain rfl := bls_ok c r2
    exact cr_all hc pins s σ H _ us Q I r ⟨p, is, rfl, SqL.of hp, Run.mk hr sim (.pure (.bl _))⟩
theorem cr_tupleE {X : Cx} (hK : X.K = g.K) : CallR X (.type "tuple") (rBi g .tuple) := by
  intro pins s σ H xs us Q I r hr
  obtain ⟨ρ, h, ds, sim, rr, hr⟩ := hr
  unfold builtin at hr
  dsimp only at hr
  split at hr
  · rename_i a
    cases c : h[a]? with
    | none => rw [c] at hr; exact (show False from hr).elim
    | some es =>
      rw [c] at hr
      obtain ⟨v, rfl, rd⟩ := rr.one
      obtain ⟨p, vs, rfl, _, hp, r2⟩ := sim.lst rd c
      exact call_tupleN pins s σ H _ us Q I r ⟨p, vs, rfl, .inl ⟨SqL.of hp, hr.newT sim r2⟩⟩
  · obtain ⟨v, rfl, rd⟩ := rr.one
    have rd0 := rd
    obtain ⟨a, vs, rfl, q, _⟩ := rd.tup
    have q := q.t
    rw [← hK] at q
    exact call_tupleN pins s σ H _ us Q I r ⟨a, vs, rfl, .inr ⟨q, hr.mk sim rd0⟩⟩
  · exact (show False from hr).elim
theorem cr_listE {X : Cx} (hK : X.K = g.K) : CallR X (.type "list") (rBi g .list) := by
  intro pins s σ H xs us Q I r hr
  obtain ⟨ρ, h, ds, sim, rr, hr⟩ := hr
  unfold builtin at hr
  dsimp only at hr
  split at hr
  · rename_i d
    cases c : itemsOf h d with
    | none => rw [c] at hr; exact (show False from hr).elim
    | some es =>
      rw [c] at hr
      obtain ⟨v, rfl, rd⟩ := rr.one
      obtain ⟨a, vs, rfl, q, r2⟩ := items_seq sim rd c
      rw [← hK] at q
      exact call_list_of pins s σ H _ us Q I r ⟨a, vs, rfl, q, fun l n => Run.newL hr sim r2 n⟩
  · exact (show False from hr).elim
/-- isinstance(v, T) -/
def rIsi (g : G) (b : Bi) (T : String) : List V → Hp → VK → Prop := fun xs H Q => ∃ (x : V) (ρ : List Addr) (h : Hh) (d : D), xs = [x, .ty T] ∧ Sim g ρ h H ∧ Rep g ρ H d x ∧ Run g ρ H (ke Q) (builtin b [d] h)
theorem cr_isi {X : Cx} (hK : X.K = g.K) {b : Bi} {T : String} (hb : (b = .isIntB ∧ T = "int") ∨ (b = .isBoolB ∧ T = "bool") ∨ (b = .isTupB ∧ T = "tuple")) : CallR X (.builtin "isinstance") (rIsi g b T) := by
  intro pins s σ H xs us Q I r hr
  obtain ⟨x, ρ, h, d, rfl, sim, rd, hr⟩ := hr
  obtain ⟨u1, u2, rfl, r1, r2⟩ := vals2 r
  cases (show u2 = Value.type T from r2)
  rcases hb with ⟨rfl, rfl⟩ | ⟨rfl, rfl⟩ | ⟨rfl, rfl⟩
  · unfold builtin at hr
    dsimp only at hr
    cases kn : known d with
    | false => rw [kn] at hr; exact (show False from hr).elim
    | true =>
      rw [kn] at hr
      exact isi_val (b := tyI d) hK I sim rd r1 kn (.inl rfl) (by cases d <;> rfl) fun tk => ⟨.bl _, H, I.tok tk, rfl, Run.mk hr sim (.pure (.bl _))⟩
  · unfold builtin at hr
    dsimp only at hr
    cases kn : known d with
    | false => rw [kn] at hr; exact (show False from hr).elim
    | true =>
      rw [kn] at hr
      exact isi_val (b := tyB d) hK I sim rd r1 kn (.inr (.inl rfl)) (by cases d <;> rfl) fun tk => ⟨.bl _, H, I.tok tk, rfl, Run.mk hr sim (.pure (.bl _))⟩
  · unfold builtin at hr
    dsimp only at hr
    cases kn : known d with
    | false => rw [kn] at hr; exact (show False from hr).elim
    | true =>
      rw [kn] at hr
      exact isi_val (b := tyT d) hK I sim rd r1 kn (.inr (.inr rfl)) (by cases d <;> rfl) fun tk => ⟨.bl _, H, I.tok tk, rfl, Run.mk hr sim (.pure (.bl _))⟩
end
end Ev
-- EvR2
/-! sources: enumerate and zip over lists and tuples in any mix -/
namespace Ev
open PySem PySem.Spec PyProof.Rows L2
def SqK (b : Bool) (K : PySem.W.Frag) (H : Hp) (a : Addr) (xs : List V) : Prop := match b with
  | true => SqL K H a xs
  | false => SqT K H a xs
def IterK (b : Bool) (h : Heap) (it a : Addr) (i : Nat) : Prop := match b with
  | true => h.IsListIter it a i
  | false => h.IsTupleIter it a i
def ObjK (b : Bool) (h : Heap) (a : Addr) (its : Array Value) : Prop := match b with
  | true => h.IsList a its
  | false => h.IsTuple a its
section
variable {X : Cx} {pins : List (Addr × Obj)} {σ : L2.St} {H : Hp} {s : Shared}
theorem sqK_at {b : Bool} {a : Addr} {xs : List V} (I : Inv X pins σ H s) (q : SqK b X.K H a xs) : ∃ its : List Value, Vals xs its ∧ ObjK b s.heap a its.toArray := by
  cases b with
  | true =>
    obtain ⟨its, r, p, _⟩ := I.list q
    exact ⟨its, r, p.isList⟩
  | false =>
    obtain ⟨its, r, p, _⟩ := I.tuple q
    exact ⟨its, r, p⟩
theorem sqK_inj {b : Bool} {a : Addr} {xs ys : List V} (I : Inv X pins σ H s) (q : SqK b X.K H a xs) (q' : SqK b X.K H a ys) : xs = ys := by
  cases b with
  | true => exact I.list_inj q q'
  | false => exact I.tuple_inj q q'
end
theorem objK_lt {b : Bool} {h : Heap} {a : Addr} {its : Array Value} (q : ObjK b h a its) : a < h.objs.size := by
  cases b with
  | true => obtain ⟨o, e, _⟩ := q; exact Heap.lt_size e
  | false => obtain ⟨o, e, _⟩ := q; exact Heap.lt_size e
theorem iterK_obj {b : Bool} {h : Heap} {it a : Addr} {i : Nat} (q : IterK b h it a i) : ∃ o, h.get? it = some o ∧ ∀ v, o.data ≠ .cell v := by
  cases b with
  | true => obtain ⟨o, e, _, d⟩ := q; exact ⟨o, e, fun v z => by rw [d] at z; cases z⟩
  | false => obtain ⟨o, e, _, d⟩ := q; exact ⟨o, e, fun v z => by rw [d] at z; cases z⟩
theorem iterK_at {b : Bool} {h h' : Heap} {it a : Addr} {i : Nat} (q : IterK b h it a i) (k : ∀ o, h.get? it = some o → h'.get? it = some o) : IterK b h' it a i := by
  cases b with
  | true => exact (show h.IsListIter it a i from q).at k
  | false => exact (show h.IsTupleIter it a i from q).at k
theorem drawsK {b : Bool} {prog : Program} {w : World} {A : Around} (hh : A.handled = none) (it l : Addr) (hne : l ≠ it) (items : Array Value) :
    Draws prog w A it [it, l] items.size (fun i v => items[i]? = some v) (fun i h => IterK b h it l i ∧ ObjK b h l items) := by
  cases b with
  | true => exact Draws.list hh it l hne items
  | false => exact Draws.tuple hh it l hne items
def iterO (b : Bool) (a : Addr) : Obj := match b with
  | true => { cls := .type "list_iterator", data := .fields #[.ref a, .int 0 0] }
  | false => { cls := .type "tuple_iterator", data := .fields #[.ref a, .int 0 0] }
theorem beginsK (b : Bool) (a : Addr) (items : Array Value) : Begins (.ref a) (iterO b a) fun h => ObjK b h a items := by
  cases b with
  | true => exact begins_list a items
  | false => exact begins_tuple a items
theorem iterO_is {b : Bool} {h : Heap} {it a : Addr} (e : h.get? it = some (iterO b a)) : IterK b h it a 0 := by
  cases b with
  | true => exact ⟨_, e, rfl, rfl⟩
  | false => exact ⟨_, e, rfl, rfl⟩
def ItE (K : PySem.W.Frag) (b : Bool) (a : Addr) : It :=
  ⟨fun i H => ∃ (xs : List V) (x : V), SqK b K H a xs ∧ xs[i]? = some x,
    fun i H v H' => ∃ T o x, v = .ref T ∧ H T = none ∧ o.dict = none ∧ H' = upd H T (.frz o (.tup [.int (i : Nat), x])) ∧ ∀ xs, SqK b K H a xs → xs[i]? = some x,
    fun i H => ∃ xs : List V, SqK b K H a xs ∧ xs.length = i⟩
theorem turn_enumK {P : Program} {w : World} {K : PySem.W.Frag} {elts : List Expr} {kk : Nat} {tpos : Pos} (b : Bool) (a e it : Addr) (hei : e ≠ it) (hai : a ≠ it) (hae : a ≠ e) :
    Turn P w K (.Tuple elts kk tpos) (ItE K b a) [e, it] e (fun i h => (∃ old, IsEnum h e it ((i : Nat) : Int) old) ∧ IterK b h it a i) where
  mem := by simp
  obj := fun i h st c hb => by
    obtain ⟨⟨old, he⟩, hi⟩ := st
    have e' : c = e ∨ c = it := by simpa using hb
    rcases e' with z | z
    · rw [z]; exact ⟨_, he, fun v q => nomatch q⟩
    · rw [z]; exact iterK_obj hi
  keep := fun i h h' st k => let ⟨⟨old, he⟩, hi⟩ := st; ⟨⟨old, k e (by simp) _ he⟩, iterK_at hi fun o q => k it (by simp) o q⟩
  item := by
    intro X hP hw hK hc i pins s σ H E I hf st hg
    subst hP hw hK
    obtain ⟨⟨old, he⟩, hit⟩ := st
    obtain ⟨xs, x, hq, hx⟩ := hg
    obtain ⟨its, rv, p⟩ := sqK_at I hq
    obtain ⟨u, hu, ru⟩ := rv.get hx
    have hel : e < s.heap.objs.size := Heap.lt_size he
    have hil : it < s.heap.objs.size := by obtain ⟨_, q, _⟩ := iterK_obj hit; exact Heap.lt_size q
    have hlt : i < its.toArray.size := by
      have := (List.getElem?_eq_some_iff.mp hu).1
      simpa using this
    refine wpAny_pyNext_enum_itemD (drawsK (A := X.A.in1) (I.ok.hd hc) it a hai its.toArray) he ⟨hit, p⟩ hlt hei (by simp; exact ⟨hei, Ne.symm hae⟩) fun u' h' tk pu ho ⟨hit', _⟩ hT hsz hk => ?_
    have eu : u' = u := by
      have : its[i]? = some u' := by simpa using pu
      rw [hu] at this
      exact (Option.some.inj this).symm
    subst eu
    refine ⟨_, rfl, wpAny_letOwnedTupleGo_enum (s := { s with heap := h', toks := tk + 1 }) ho fun h'' he' sb => ?_⟩
    have hT2 : h''.get? s.heap.objs.size = some { cls := .type "tuple", data := .seq #[.int i tk, u'] } := (sb.2 _ (Nat.ne_of_gt hel)).trans hT
    have new : ObjOk X.prog X.w (upd H s.heap.objs.size (.frz { cls := .type "tuple", data := .seq #[.int i tk, u'] } (.tup [.int (i : Nat), x]))) h'' s.heap.objs.size (.frz { cls := .type "tuple", data := .seq #[.int i tk, u'] } (.tup [.int (i : Nat), x])) :=
      ⟨hT2, by show 2 ≤ sizeLine; decide, [.int i tk, u'], .cons ⟨_, rfl⟩ (.cons ru .nil), ⟨_, hT2, rfl, _, rfl⟩⟩
    have I1 : Inv X pins σ (upd H s.heap.objs.size (.frz { cls := .type "tuple", data := .seq #[.int i tk, u'] } (.tup [.int (i : Nat), x]))) { s with heap := h'', toks := tk + 1 } :=
      I.turnedNew (ch := [e, it]) (fun c ob hb q => (sb.2 c (fun z => hb (by simp [z]))).trans (hk c ob (fun z => hb (by simp [z])) (fun z => hb (by simp [z])) q)) hf (Nat.le_refl _) new
    refine ⟨.ref s.heap.objs.size, _, I1, rfl, ⟨_, _, x, rfl, I.hok.fresh (Nat.le_refl _), rfl, rfl, fun ys hy => by rw [sqK_inj I hy hq]; exact hx⟩, ⟨⟨u', ?_⟩, iterK_at hit' fun o q => (sb.2 it (Ne.symm hei)).trans q⟩, fun c hb => ?_⟩
    · have e1 : ((i + 1 : Nat) : Int) = (i : Int) + 1 := by omega
      rw [e1]; exact he'
    · have hb' : c < s.heap.objs.size := by
        have e' : c = e ∨ c = it := by simpa using hb
        rcases e' with z | z
        · rw [z]; exact hel
        · rw [z]; exact hil
      rw [upd_ne (Nat.ne_of_lt hb')]
      exact (hf c hb).1
  done := by
    intro X hP hw hK hc i pins s σ H E I hf st hg
    subst hP hw hK
    obtain ⟨⟨old, he⟩, hit⟩ := st
    obtain ⟨xs, hq, hx⟩ := hg
    obtain ⟨its, rv, p⟩ := sqK_at I hq
    obtain ⟨f0, f1, f2, f3, f4, f5⟩ := hf it (by simp)
    have hl : its.toArray.size = i := by
      have := rv.length
      simp
      omega
    exact wpAny_pyNext_enum_endD (i := (i : Int)) (drawsK (A := X.A.in1) (I.ok.hd hc) it a hai its.toArray) he ⟨by rw [hl]; exact hit, p⟩ fun h' eb => ⟨rfl, I.turned (t' := s.toks) (fun c o hb q => eb c o hb q) f0 f1 f3 f4 f5⟩
  self := fun A i s Q E st h => let ⟨⟨_, he⟩, _⟩ := st; wpAny_pyIter_enum he h
theorem meets_enumerate_newB1 {v : Value} {o : Obj} {H : Heap → Prop} (B : Begins v o H) :
    Meets (Builtin.«enumerate.__new__» ⟨[.type "enumerate", v], []⟩) (fun _ R s => H s.heap ∧
      R (.ok (.ret (.ref (s.heap.push o).objs.size))) { s with heap := (s.heap.push o).push { cls := .type "enumerate", data := .fields #[.none, .bool false, .ref s.heap.objs.size, rawInt 0, .none, .none] } }) :=
  .of_wp fun prog w A R s h => by
    obtain ⟨hp, g, d, tk, os⟩ := s; obtain ⟨h1, h⟩ := h
    have hsub := sub_enumerate
    have q1 : ∀ {A' : Around} {E : Value → Shared → Prop} {Q : Value → Shared → Prop}, Q (.ref hp.objs.size) ⟨hp.push o, g, d, tk, os⟩ → wpAny (model prog w) A' (pyIter v) Q E ⟨hp, g, d, tk, os⟩ :=
      fun q => B.iter prog w _ _ ⟨hp, g, d, tk, os⟩ _ h1 q
    wp_walk using q1
    refine wpAny_stack_any fun st => wpAny_pure ?_
    split
    · rename_i c _ _ _ _ _
      cases (c == Value.type "enumerate")
      · wp_walk using q1
        exact ⟨_, rfl, h⟩
      · wp_walk using q1
        exact ⟨_, rfl, h⟩
    · wp_walk using q1
      exact ⟨_, rfl, h⟩
theorem enum_begins1 {prog : Program} {w : World} {A : Around} {E : Value → Shared → Prop} {s : Shared} {v : Value} {o : Obj} {H : Heap → Prop} {Q : Value → Shared → Prop} (B : Begins v o H) (h1 : H s.heap)
    (h : ∀ h', IsEnum h' (s.heap.objs.size + 1) s.heap.objs.size 0 .none → h'.get? s.heap.objs.size = some o → h'.objs.size = s.heap.objs.size + 2 →
      (∀ b o, s.heap.get? b = some o → h'.get? b = some o) → Q (.ref (s.heap.objs.size + 1)) { s with heap := h' }) :
    wpAny (model prog w) A (call (.type "enumerate") [v]) Q E s := by
  refine callType_new F.called_enumerate (by decide) (F.typeCall_enumerate_1 _) (F.newCall_enumerate_1 _) (fun obj => F.args_object_init_2 obj _) F.entry_enumerate_new
    (meets_enumerate_newB1 B) ⟨h1, ?_⟩
  have hz : (s.heap.push o).objs.size = s.heap.objs.size + 1 := Heap.size_push ..
  show _ ∧ _
  rw [hz]
  have he : IsEnum ((s.heap.push o).push { cls := .type "enumerate", data := .fields #[.none, .bool false, .ref s.heap.objs.size, rawInt 0, .none, .none] }) (s.heap.objs.size + 1) s.heap.objs.size 0 .none := by
    have := Heap.get?_push_size (s.heap.push o) (o := { cls := .type "enumerate", data := .fields #[.none, .bool false, .ref s.heap.objs.size, rawInt 0, .none, .none] }) rfl
    rw [hz] at this; exact this
  refine ⟨⟨_, he, rfl⟩, h _ he (Heap.get?_push_of_some _ (Heap.get?_push_size _ B.free)) (by rw [Heap.size_push, hz]) fun b o x => Heap.get?_push_of_some _ (Heap.get?_push_of_some _ x)⟩
theorem notStar {e : Expr} {es : List Expr} {env : Env} (h : isStar e = false) : starEach (e :: es) env = (false, eval e env) :: starEach es env := by
  cases e <;> first | rfl | cases h
section
variable {X : Cx}
def iEnK (K : PySem.W.Frag) (te : TE) : TI := fun σ H R => te σ H fun x H1 => ∃ (b : Bool) (a : Addr) (xs : List V), x = .ref a ∧ SqK b K H1 a xs ∧ R (ItE K b a) H1
theorem pi_enK {e : Expr} {te : TE} {p pos tpos : Pos} {elts : List Expr} {kk : Nat} (hg : Gl X "enumerate") (hm : X.mg "enumerate" = none) (he : PE X e te) (hs : isStar e = false) :
    PI X (.Tuple elts kk tpos) (.Call (.Name "enumerate" p) [e] [] pos) (iEnK X.K te) := by
  refine ⟨fun pins s σ H R I h => ?_⟩
  have ha : PA X [e] (tCons te tNil) := pa_cons he pa_nil (notStar hs)
  refine Call_ (ld_blt I hg hm boot_enumerate (PyProof.Rows.callWith_type1 (thn (ha.run pos pins s σ H (fun vs H1 => ∃ (b : Bool) (a : Addr) (xs : List V), vs = [.ref a] ∧ SqK b X.K H1 a xs ∧ R (ItE X.K b a) H1) I ?_) fun us s1 ⟨vs, H1, I1, r1, q1⟩ => ?_) (notStar hs) rfl))
  · show te σ H fun x H1 => ∃ (b : Bool) (a : Addr) (xs : List V), [x] = [.ref a] ∧ _
    have h2 : (fun (x : V) (H1 : Hp) => ∃ (b : Bool) (a : Addr) (xs : List V), [x] = [V.ref a] ∧ SqK b X.K H1 a xs ∧ R (ItE X.K b a) H1) = (fun x H1 => ∃ (b : Bool) (a : Addr) (xs : List V), x = .ref a ∧ SqK b X.K H1 a xs ∧ R (ItE X.K b a) H1) := by
      funext x H1
      simp only [List.cons.injEq, and_true]
    rw [h2]
    exact h
  · obtain ⟨b, a, xs, ex, hq, q⟩ := q1
    subst ex
    cases r1 with
    | cons r rr =>
      cases rr
      cases r
      obtain ⟨its, rv, p'⟩ := sqK_at I1 hq
      refine enum_begins1 (beginsK b a its.toArray) p' fun h' he hit hsz hk => wpAny_pyIter_enum he ?_
      have I2 : Inv X pins σ H1 { s1 with heap := h' } := I1.kept (t' := s1.toks) hk
      have la := objK_lt p'
      refine ⟨s1.heap.objs.size + 1, [s1.heap.objs.size + 1, s1.heap.objs.size], _, _, H1, rfl, I2, turn_enumK b a (s1.heap.objs.size + 1) s1.heap.objs.size (Nat.succ_ne_self _) (Nat.ne_of_lt la) (Nat.ne_of_lt (Nat.lt_succ_of_lt la)), ⟨⟨.none, he⟩, iterO_is hit⟩, fun c hb => ?_, q⟩
      have e' : c = s1.heap.objs.size + 1 ∨ c = s1.heap.objs.size := by simpa using hb
      have hle : s1.heap.objs.size ≤ c := by
        rcases e' with z | z
        · rw [z]; exact Nat.le_add_right _ _
        · rw [z]; exact Nat.le_refl _
      exact I1.fpOk hle (I1.hok.fresh hle)
end
/-! zip -/
def ItZ (K : PySem.W.Frag) (b c : Bool) (a a2 : Addr) : It :=
  ⟨fun i H => ∃ (xs ys : List V) (x y : V), SqK b K H a xs ∧ SqK c K H a2 ys ∧ xs[i]? = some x ∧ ys[i]? = some y,
    fun i H v H' => ∃ T o x y, v = .ref T ∧ H T = none ∧ o.dict = none ∧ H' = upd H T (.frz o (.tup [x, y])) ∧ (∀ xs, SqK b K H a xs → xs[i]? = some x) ∧ ∀ ys, SqK c K H a2 ys → ys[i]? = some y,
    fun i H => ∃ xs ys : List V, SqK b K H a xs ∧ SqK c K H a2 ys ∧ i ≤ xs.length ∧ i ≤ ys.length ∧ (i = xs.length ∨ i = ys.length)⟩
theorem turn_zipK {P : Program} {w : World} {K : PySem.W.Frag} {elts : List Expr} {kk : Nat} {tpos : Pos} {b c : Bool} {a a2 z TI TO i1 i2 : Addr} (D : ZipSep2 z TI TO i1 i2 [i1, a] [i2, a2]) :
    Turn P w K (.Tuple elts kk tpos) (ItZ K b c a a2) [z, TI, TO, i1, i2] z (fun i h => IsZip h z TI TO .none ∧ IsTupOf2 h TI (.ref i1) (.ref i2) ∧ (∃ x y, IsTupOf2 h TO x y) ∧ IterK b h i1 a i ∧ IterK c h i2 a2 i) where
  mem := by simp
  obj := fun i h st d hc => by
    obtain ⟨hz, hTI, ⟨x, y, hTO⟩, k1, k2⟩ := st
    have e' : d = z ∨ d = TI ∨ d = TO ∨ d = i1 ∨ d = i2 := by simpa using hc
    rcases e' with q | q | q | q | q
    · rw [q]; exact ⟨_, hz, fun v q => nomatch q⟩
    · rw [q]; exact ⟨_, hTI, fun v q => nomatch q⟩
    · rw [q]; exact ⟨_, hTO, fun v q => nomatch q⟩
    · rw [q]; exact iterK_obj k1
    · rw [q]; exact iterK_obj k2
  keep := fun i h h' st k => by
    obtain ⟨hz, hTI, ⟨x, y, hTO⟩, h1, h2⟩ := st
    exact ⟨k z (by simp) _ hz, k TI (by simp) _ hTI, ⟨x, y, k TO (by simp) _ hTO⟩, iterK_at h1 fun o q => k i1 (by simp) o q, iterK_at h2 fun o q => k i2 (by simp) o q⟩
  item := by
    intro X hP hw hK hc i pins s σ H E I hf st hg
    subst hP hw hK
    obtain ⟨hz, hTI, ⟨x0, y0, hTO⟩, h1, h2⟩ := st
    obtain ⟨xs, ys, x, y, hqx, hqy, hx, hy⟩ := hg
    obtain ⟨its, rv, p⟩ := sqK_at I hqx
    obtain ⟨its2, rv2, p2⟩ := sqK_at I hqy
    obtain ⟨u, hu, ru⟩ := rv.get hx
    obtain ⟨u2, hu2, ru2⟩ := rv2.get hy
    have hzl : z < s.heap.objs.size := Heap.lt_size hz
    have n1 : a ≠ i1 := fun e => D.sep1_2 (by
      obtain ⟨_, e1, _⟩ := iterK_obj h1
      exfalso
      subst e
      cases b with
      | true =>
        obtain ⟨o1, q1, c1, d1⟩ := (show s.heap.IsListIter a a i from h1)
        obtain ⟨o2, q2, c2, _⟩ := (show s.heap.IsList a its.toArray from p)
        rw [q1] at q2
        cases q2
        rw [c1] at c2
        exact absurd c2 (by decide)
      | false =>
        obtain ⟨o1, q1, c1, d1⟩ := (show s.heap.IsTupleIter a a i from h1)
        obtain ⟨o2, q2, c2, _⟩ := (show s.heap.IsTuple a its.toArray from p)
        rw [q1] at q2
        cases q2
        rw [c1] at c2
        exact absurd c2 (by decide))
    have n2 : a2 ≠ i2 := fun e => D.sep2_1 (by
      exfalso
      subst e
      cases c with
      | true =>
        obtain ⟨o1, q1, c1, d1⟩ := (show s.heap.IsListIter a2 a2 i from h2)
        obtain ⟨o2, q2, c2, _⟩ := (show s.heap.IsList a2 its2.toArray from p2)
        rw [q1] at q2
        cases q2
        rw [c1] at c2
        exact absurd c2 (by decide)
      | false =>
        obtain ⟨o1, q1, c1, d1⟩ := (show s.heap.IsTupleIter a2 a2 i from h2)
        obtain ⟨o2, q2, c2, _⟩ := (show s.heap.IsTuple a2 its2.toArray from p2)
        rw [q1] at q2
        cases q2
        rw [c1] at c2
        exact absurd c2 (by decide))
    have hlt1 : i < its.toArray.size := by simpa using (List.getElem?_eq_some_iff.mp hu).1
    have hlt2 : i < its2.toArray.size := by simpa using (List.getElem?_eq_some_iff.mp hu2).1
    refine wpAny_pyNext_zipD2_item D (drawsK (A := X.A.in1) (I.ok.hd hc) i1 a n1 its.toArray) (drawsK (A := X.A.in1) (I.ok.hd hc) i2 a2 n2 its2.toArray) hz hTI hTO ⟨h1, p⟩ ⟨h2, p2⟩ hlt1 hlt2 fun v1 v2 h' tk pv1 pv2 z' TO' s1' s2' hT hsz hk => ?_
    have e1 : v1 = u := by
      have : its[i]? = some v1 := by simpa using pv1
      rw [hu] at this
      exact (Option.some.inj this).symm
    have e2 : v2 = u2 := by
      have : its2[i]? = some v2 := by simpa using pv2
      rw [hu2] at this
      exact (Option.some.inj this).symm
    subst e1
    subst e2
    refine ⟨_, rfl, wpAny_letOwnedTupleGo_zip (s := { s with heap := h', toks := tk }) z' fun h'' z'' sb => ?_⟩
    have hT2 : h''.get? s.heap.objs.size = some { cls := .type "tuple", data := .seq #[v1, v2] } := (sb.2 _ (Nat.ne_of_gt hzl)).trans hT
    have new : ObjOk X.prog X.w (upd H s.heap.objs.size (.frz { cls := .type "tuple", data := .seq #[v1, v2] } (.tup [x, y]))) h'' s.heap.objs.size (.frz { cls := .type "tuple", data := .seq #[v1, v2] } (.tup [x, y])) :=
      ⟨hT2, by show 2 ≤ sizeLine; decide, [v1, v2], .cons ru (.cons ru2 .nil), ⟨_, hT2, rfl, _, rfl⟩⟩
    have I1 : Inv X pins σ (upd H s.heap.objs.size (.frz { cls := .type "tuple", data := .seq #[v1, v2] } (.tup [x, y]))) { s with heap := h'', toks := tk } :=
      I.turnedNew (ch := [z, TI, TO, i1, i2]) (fun d o hb q => (sb.2 d (fun q' => hb (by simp [q']))).trans (hk d o (fun q' => hb (by simp [q'])) (fun q' => hb (by simp [q'])) (fun q' => hb (by simp [q'])) (fun q' => hb (by simp [q'])) q)) hf (Nat.le_refl _) new
    have i1z : i1 ≠ z := fun e => D.zf1 (by rw [← e]; simp)
    have i2z : i2 ≠ z := fun e => D.zf2 (by rw [← e]; simp)
    refine ⟨.ref s.heap.objs.size, _, I1, rfl, ⟨_, _, x, y, rfl, I.hok.fresh (Nat.le_refl _), rfl, rfl, fun l hl => by rw [sqK_inj I hl hqx]; exact hx, fun l hl => by rw [sqK_inj I hl hqy]; exact hy⟩, ⟨z'', ?_, ⟨v1, v2, ?_⟩, ?_, ?_⟩, fun d hcm => ?_⟩
    · exact (sb.2 _ D.TIz).trans (hk _ _ D.TIz D.TITO D.TIi1 D.TIi2 hTI)
    · exact (sb.2 _ D.TOz).trans TO'
    · exact iterK_at s1'.1 fun o q => (sb.2 _ i1z).trans q
    · exact iterK_at s2'.1 fun o q => (sb.2 _ i2z).trans q
    · have hlt : d < s.heap.objs.size := by
        have e' : d = z ∨ d = TI ∨ d = TO ∨ d = i1 ∨ d = i2 := by simpa using hcm
        rcases e' with q | q | q | q | q
        · rw [q]; exact hzl
        · rw [q]; exact Heap.lt_size hTI
        · rw [q]; exact Heap.lt_size hTO
        · rw [q]; obtain ⟨_, e1, _⟩ := iterK_obj h1; exact Heap.lt_size e1
        · rw [q]; obtain ⟨_, e2, _⟩ := iterK_obj h2; exact Heap.lt_size e2
      rw [upd_ne (Nat.ne_of_lt hlt)]
      exact (hf d hcm).1
  done := by
    intro X hP hw hK hc i pins s σ H E I hf st hg
    subst hP hw hK
    obtain ⟨hz, hTI, ⟨x0, y0, hTO⟩, h1, h2⟩ := st
    obtain ⟨xs, ys, hqx, hqy, l1, l2, hend⟩ := hg
    obtain ⟨its, rv, p⟩ := sqK_at I hqx
    obtain ⟨its2, rv2, p2⟩ := sqK_at I hqy
    have n1 : a ≠ i1 := fun e => by
      subst e
      cases b with
      | true =>
        obtain ⟨o1, q1, c1, d1⟩ := (show s.heap.IsListIter a a i from h1)
        obtain ⟨o2, q2, c2, _⟩ := (show s.heap.IsList a its.toArray from p)
        rw [q1] at q2
        cases q2
        rw [c1] at c2
        exact absurd c2 (by decide)
      | false =>
        obtain ⟨o1, q1, c1, d1⟩ := (show s.heap.IsTupleIter a a i from h1)
        obtain ⟨o2, q2, c2, _⟩ := (show s.heap.IsTuple a its.toArray from p)
        rw [q1] at q2
        cases q2
        rw [c1] at c2
        exact absurd c2 (by decide)
    have n2 : a2 ≠ i2 := fun e => by
      subst e
      cases c with
      | true =>
        obtain ⟨o1, q1, c1, d1⟩ := (show s.heap.IsListIter a2 a2 i from h2)
        obtain ⟨o2, q2, c2, _⟩ := (show s.heap.IsList a2 its2.toArray from p2)
        rw [q1] at q2
        cases q2
        rw [c1] at c2
        exact absurd c2 (by decide)
      | false =>
        obtain ⟨o1, q1, c1, d1⟩ := (show s.heap.IsTupleIter a2 a2 i from h2)
        obtain ⟨o2, q2, c2, _⟩ := (show s.heap.IsTuple a2 its2.toArray from p2)
        rw [q1] at q2
        cases q2
        rw [c1] at c2
        exact absurd c2 (by decide)
    have m1 := rv.length
    have m2 := rv2.length
    exact wpAny_pyNext_zipD2_end D (drawsK (A := X.A.in1) (I.ok.hd hc) i1 a n1 its.toArray) (drawsK (A := X.A.in1) (I.ok.hd hc) i2 a2 n2 its2.toArray) hz hTI hTO ⟨h1, p⟩ ⟨h2, p2⟩ (by simp; omega) (by simp; omega) (by simp; omega) fun h' tk hk => ⟨rfl, I.turnedL (ch := [z, TI, TO, i1, i2]) (fun d o hb q =>
      hk d o (fun q' => hb (by simp [q'])) (fun q' => hb (by simp [q'])) (fun q' => hb (by simp [q'])) (fun q' => hb (by simp [q'])) q) hf⟩
  self := fun A i s Q E st h => wpAny_pyIter_zip st.1 h
section
variable {X : Cx}
def iZpK (K : PySem.W.Frag) (te tf : TE) : TI := fun σ H R => te σ H fun x H1 => tf σ H1 fun y H2 => ∃ (b c : Bool) (a a2 : Addr) (xs ys : List V), x = .ref a ∧ y = .ref a2 ∧ SqK b K H2 a xs ∧ SqK c K H2 a2 ys ∧ R (ItZ K b c a a2) H2
theorem pi_zpK {e f : Expr} {te tf : TE} {p pos tpos : Pos} {elts : List Expr} {kk : Nat} (hg : Gl X "zip") (hm : X.mg "zip" = none) (he : PE X e te) (hf : PE X f tf) (hs : isStar e = false) (hs2 : isStar f = false) :
    PI X (.Tuple elts kk tpos) (.Call (.Name "zip" p) [e, f] [] pos) (iZpK X.K te tf) := by
  refine ⟨fun pins s σ H R I h => ?_⟩
  have ha : PA X [e, f] (tCons te (tCons tf tNil)) := pa_cons he (pa_cons hf pa_nil (notStar hs2)) (notStar hs)
  refine Call_ (ld_blt I hg hm PyProof.Rows.boot_zip (PyProof.Rows.callWith_type1 (thn (ha.run pos pins s σ H (fun vs H2 => ∃ (b c : Bool) (a a2 : Addr) (xs ys : List V), vs = [.ref a, .ref a2] ∧ SqK b X.K H2 a xs ∧ SqK c X.K H2 a2 ys ∧ R (ItZ X.K b c a a2) H2) I ?_) fun us s1 ⟨vs, H1, I1, r1, q1⟩ => ?_) (notStar hs) ?_))
  · show te σ H fun x H1 => tf σ H1 fun y H2 => ∃ (b c : Bool) (a a2 : Addr) (xs ys : List V), [x, y] = [.ref a, .ref a2] ∧ _
    have h2 : ∀ x : V, (fun (y : V) (H2 : Hp) => ∃ (b c : Bool) (a a2 : Addr) (xs ys : List V), [x, y] = [V.ref a, V.ref a2] ∧ SqK b X.K H2 a xs ∧ SqK c X.K H2 a2 ys ∧ R (ItZ X.K b c a a2) H2) = (fun y H2 => ∃ (b c : Bool) (a a2 : Addr) (xs ys : List V), x = .ref a ∧ y = .ref a2 ∧ SqK b X.K H2 a xs ∧ SqK c X.K H2 a2 ys ∧ R (ItZ X.K b c a a2) H2) := fun x => by
      funext y H2
      simp only [List.cons.injEq, and_true, and_assoc]
    simp only [h2]
    exact h
  · obtain ⟨b, c, a, a2, xs, ys, ex, hq, hq2, q⟩ := q1
    subst ex
    cases r1 with
    | cons r rr =>
      cases rr with
      | cons r' rr =>
        cases rr
        cases r
        cases r'
        obtain ⟨its, rv, p'⟩ := sqK_at I1 hq
        obtain ⟨its2, rv2, p2'⟩ := sqK_at I1 hq2
        refine zip_begins2 (beginsK b a its.toArray) (beginsK c a2 its2.toArray) p' p2' fun h' hz hTI hTO k1 k2 hsz hk => wpAny_pyIter_zip hz ?_
        have I2 : Inv X pins σ H1 { s1 with heap := h' } := I1.kept (t' := s1.toks) hk
        have la := objK_lt p'
        have la2 := objK_lt p2'
        refine ⟨s1.heap.objs.size + 4, [s1.heap.objs.size + 4, s1.heap.objs.size + 2, s1.heap.objs.size + 3, s1.heap.objs.size, s1.heap.objs.size + 1], _, _, H1, rfl, I2, turn_zipK (zip_sep2 (N := s1.heap.objs.size) (fp1 := [a]) (fp2 := [a2]) (by simpa using la) (by simpa using la2)), ⟨hz, hTI, ⟨_, _, hTO⟩, iterO_is k1, iterO_is k2⟩, fun d hcm => ?_, q⟩
        have e' : d = s1.heap.objs.size + 4 ∨ d = s1.heap.objs.size + 2 ∨ d = s1.heap.objs.size + 3 ∨ d = s1.heap.objs.size ∨ d = s1.heap.objs.size + 1 := by simpa using hcm
        have hle : s1.heap.objs.size ≤ d := by
          rcases e' with z | z | z | z | z
          · rw [z]; exact Nat.le_add_right _ _
          · rw [z]; exact Nat.le_add_right _ _
          · rw [z]; exact Nat.le_add_right _ _
          · rw [z]; exact Nat.le_refl _
          · rw [z]; exact Nat.le_add_right _ _
        exact I1.fpOk hle (I1.hok.fresh hle)
  · rw [notStar hs2]
    rfl
end
end Ev
-- EvT
/-! next over a generator expression: the first place with a number other than 0 -/
namespace Ev
open PySem PySem.Spec PyProof.Rows L2 GxR
def pzN (ns : List Int) (i : Nat) : Bool := match ns[i]? with
  | some x => x != 0
  | none => false
/-- the expression's own scope -/
structure GenS2 (env : Env) (scope : Scope) (xa xb : Str) : Prop where
  kind : scope.kind = .function
  co : scope.isCoroutine = false
  cell : ∀ y ∈ scope.names, y.2 ≠ .cell
  dot : scope.names.lookup (".0" : Str) = some NameKind.local
  la : scope.names.lookup xa = some .local
  lb : scope.names.lookup xb = some .local
  ab : xa ≠ xb
  da : (xa == ("__debug__" : Str)) = false
  db : (xb == ("__debug__" : Str)) = false
  free : ∀ y ∈ scope.names, y.2 = .free → ∃ c, env.cells.lookup y.1 = some c
theorem ad_lt {n a b : Nat} (ha : a < n) (h : b = n + 1 ∨ b = n ∨ b = a) : b < n + 2 := by omega
theorem ad_no {n c : Nat} (h : c < n) : ¬ (c = n + 1 ∨ c = n) := by omega
theorem ad_ne {n a b P : Nat} (hP : P < n) (aP : a ≠ P) (h : b = n + 1 ∨ b = n ∨ b = a) : b ≠ P := by omega
theorem ad_no3 {n m b : Nat} (h : b < n) (hm : n + 2 ≤ m) : ¬ (b = m ∨ b = n + 1 ∨ b = n) := by omega
theorem ad_in {n a : Nat} (ha : a < n) : n + 1 ≠ a := by omega
section
variable {X : Cx} {pins : List (Addr × Obj)} {σ : L2.St} {H : Hp} {s : Shared}
/-- the generator stands ready -/
def Ready2 (X : Cx) (pins : List (Addr × Obj)) (σ : L2.St) (H1 : Hp) (P : Addr) (ns : List Int) (g : Addr) (s5 : Shared) : Prop :=
  ∃ (fp wr : List Addr) (G : Array GenState → Array GenState → Prop) (F : Nat → Value → Prop) (St : Nat → Shared → Prop),
    WalksS X.prog X.w X.A.in1 g fp wr G (passing (pzN ns) ns.length 0).length F St ∧ St 0 s5 ∧ s5.TypeIs (.ref g) "generator" ∧
    (∀ j y, F j y → ∃ i t, (passing (pzN ns) ns.length 0)[j]? = some i ∧ y = .int (i : Int) t) ∧
    ∀ s', Moved wr G s5 s' → ∃ H2, Tabbed P H1 H2 ∧ Inv X pins σ H2 s'
theorem gen_en {c P : Addr} {e : Expr} {te : TE} {xa xb : Str} {p1 pa pb pt pe pc p2 p3 p4 gpos : Pos} {kt jj : Nat} {scope : Scope} {k : Nat} {Q' : Value → Shared → Prop} {R : List Int → Hp → Prop}
    (hr : Room k X.A) (TB : TabB X.base X.mg c P) (hcode : X.env.code = .ref c) (S : GenS2 X.env scope xa xb) (hg : Gl X "enumerate") (hm : X.mg "enumerate" = none) (he : PE X e te) (hst : isStar e = false)
    (hs : ∀ v, genFold (.Call (.Name "enumerate" pe) [e] [] pc) X.env v = pure v) (I : Inv X pins σ H s)
    (h : te σ H fun v H1 => ∃ (b : Bool) (a : Addr) (ns : List Int), v = .ref a ∧ SqK b X.K H1 a (ns.map V.int) ∧ TabG H1 P ∧ R ns H1)
    (hQ : ∀ ns H1 g s5, R ns H1 → Ready2 X pins σ H1 P ns g s5 → Q' (.ref g) s5) :
    wpAny (model X.prog X.w) X.A (eval (.GeneratorExp (.Name xa p1) [⟨.Tuple [.Name xa pa, .Name xb pb] kt pt, .Call (.Name "enumerate" pe) [e] [] pc, [.Compare (.Name xb p2) [.NotEq] [.Constant (.int 0) jj p3] p4], 0⟩] scope gpos) X.env) Q' X.xe s := by
  refine wpAny_GeneratorExp_walksQT hr.hd S.co (closure_ok S.free) S.cell S.dot S.la S.lb S.ab S.kind (by have := hr.dp; omega) ?_ hs
  have ha : PA X [e] (tCons te tNil) := pa_cons he pa_nil (notStar hst)
  refine Call_ (ld_blt I hg hm boot_enumerate (PyProof.Rows.callWith_type1 (thn (ha.run pc pins s σ H (fun vs H1 => ∃ (b : Bool) (a : Addr) (ns : List Int), vs = [.ref a] ∧ SqK b X.K H1 a (ns.map V.int) ∧ TabG H1 P ∧ R ns H1) I ?_) fun us s1 ⟨vs, H1, I1, r1, q1⟩ => ?_) (notStar hst) rfl))
  · show te σ H fun x H1 => ∃ (b : Bool) (a : Addr) (ns : List Int), [x] = [.ref a] ∧ _
    have h2 : (fun (x : V) (H1 : Hp) => ∃ (b : Bool) (a : Addr) (ns : List Int), [x] = [V.ref a] ∧ SqK b X.K H1 a (ns.map V.int) ∧ TabG H1 P ∧ R ns H1) = (fun x H1 => ∃ (b : Bool) (a : Addr) (ns : List Int), x = .ref a ∧ SqK b X.K H1 a (ns.map V.int) ∧ TabG H1 P ∧ R ns H1) := by
      funext x H1
      simp only [List.cons.injEq, and_true]
    rw [h2]
    exact h
  · obtain ⟨b, a, ns, ex, hq, ⟨ps, hP, ht⟩, q1⟩ := q1
    subst ex
    cases r1 with
    | cons r rr =>
      cases rr
      cases r
      obtain ⟨its, rv, p'⟩ := sqK_at I1 hq
      refine enum_begins1 (beginsK b a its.toArray) p' fun h' hen hit hsz hk => wpAny_pyIter_enum hen ?_
      have la := objK_lt p'
      have hPs : s1.heap.get? P = some { cls := .none, data := .fields ps } := I1.hok P _ hP
      have hPlt : P < s1.heap.objs.size := Heap.lt_size hPs
      have hP2 : h'.get? P = some { cls := .none, data := .fields ps } := hk _ _ hPs
      have aP : a ≠ P := fun z => by
        subst z
        cases b with
        | true => obtain ⟨o, e1, _, d⟩ := p'; rw [hPs] at e1; cases e1; obtain ⟨_, z⟩ := d; cases z
        | false => obtain ⟨o, e1, _, d⟩ := p'; rw [hPs] at e1; cases e1; obtain ⟨_, z⟩ := d; cases z
      have cd : PySem.W.CodeHd h' c P := TB.code.keeps fun b u e => hk _ _ (I1.bk b u e)
      have lim2 : h'.NoLimit := I1.nolimit.keeps hk
      have lenI : its.length = ns.length := by have := rv.length; rw [List.length_map] at this; omega
      have at_int : ∀ (i : Nat) (v : Value), its.toArray[i]? = some v → ∃ z t, ns[i]? = some z ∧ v = .int z t := fun i v hv => by
        have hv' : its[i]? = some v := by simpa using hv
        have hi : i < ns.length := by have := (List.getElem?_eq_some_iff.mp hv').1; omega
        obtain ⟨u, hu, ru⟩ := rv.get (i := i) (x := V.int ns[i]) (by rw [List.getElem?_map, List.getElem?_eq_getElem hi]; rfl)
        rw [hv'] at hu
        cases hu
        obtain ⟨t, et⟩ := ru
        exact ⟨ns[i], t, List.getElem?_eq_getElem hi, et⟩
      have cont : ∀ (code : Value) (h3 : Heap) (tk : Nat) (ps' : Array Value), Heap.ExtBut P h' h3 → h'.objs.size ≤ h3.objs.size → h3.get? P = some { cls := .none, data := .fields ps' } → (∃ more, ps' = ps ++ more) → TriplesOk ps'.toList →
          wpAny (model X.prog X.w) X.A (builtinsFor X.env.globals X.env.builtins) (fun bi s₄ =>
            ∃ Ia fp wr n₀ Pt St₀ Mid pz F, Value.ref (s1.heap.objs.size + 1) = .ref Ia ∧ (∀ A' : Around, A'.handled = none → WalksU X.prog X.w A' Ia fp wr n₀ Pt St₀ Mid) ∧ (∀ i vals, Pt i vals → ∃ va vb, vals = #[va, vb]) ∧ St₀ 0 s₄.heap ∧ (∀ b ∈ fp, b < s₄.heap.objs.size) ∧ s₄.heap.NoLimit ∧ cStatics ∉ wr ∧
              (∀ href : Heap, (∀ b o, s₄.heap.get? b = some o → href.get? b = some o) →
                QuietGenT X.prog X.w (genEnv scope (cloFrom X.env.cells scope.names []) s₄.heap.objs.size code bi X.env) xa xb [.Compare (.Name xb p2) [.NotEq] [.Constant (.int 0) jj p3] p4] (.Name xa p1) (List.range s₄.heap.objs.size) wr Pt pz F href) ∧
              (∀ a h₅ tk gs, gs.bare = true → s₄.heap.objs.size < a → h₅.objs.size = a + 1 → (∀ b o, s₄.heap.get? b = some o → h₅.get? b = some o) →
                WalksS X.prog X.w X.A.in4 a (a :: s₄.heap.objs.size :: List.range s₄.heap.objs.size) (s₄.heap.objs.size :: wr) (GenOnlyQ s₄.gens.size) (passing pz n₀ 0).length
                  (fun j y => ∃ i, (passing pz n₀ 0)[j]? = some i ∧ F i y) (GenAt X.prog X.w X.A.in4 a s₄.gens.size s₄.heap.objs.size (List.range s₄.heap.objs.size) wr pz n₀ F) →
                GenAt X.prog X.w X.A.in4 a s₄.gens.size s₄.heap.objs.size (List.range s₄.heap.objs.size) wr pz n₀ F 0 { s₄ with gens := s₄.gens.push gs, toks := tk, heap := h₅ } →
                Q' (.ref a) { s₄ with gens := s₄.gens.push gs, toks := tk, heap := h₅ })) X.xe { s1 with heap := h3, toks := tk } := by
        intro code h3 tk ps' hx hsz3 hP3 hmore ht3
        obtain ⟨bm, ob, e1, e2, e3, e4, e5, e6, e7, e8⟩ := TB.bm
        have hcP : cStatics ≠ P := fun e => by
          obtain ⟨_, hns, _⟩ := I1.nolimit
          obtain ⟨o', es, ep, ho, hd, _⟩ := hns
          rw [e, hPs] at ho
          cases ho
          cases hd
        have hcl : cStatics < s1.heap.objs.size := let ⟨_, hns, _⟩ := I1.nolimit; hns.lt
        have keep3 : ∀ b u, b ≠ P → s1.heap.get? b = some u → h3.get? b = some u := fun b u hb e => hx b u hb (hk _ _ e)
        refine wpAny_builtinsFor (m := X.mg) (by rw [I1.ok.glob]; exact ((I1.mod.glob.keeps I1.bk).keeps hk).extBut hx TB.gP) e1 e2 (keep3 _ _ e4 (I1.bk _ _ e5)) e6 e7 e8 ?_
        have hei : s1.heap.objs.size + 1 ≠ s1.heap.objs.size := Nat.succ_ne_self _
        have fpP : ∀ b ∈ [s1.heap.objs.size + 1, s1.heap.objs.size, a], b ≠ P := fun b hb => ad_ne hPlt aP (by simpa using hb)
        refine ⟨s1.heap.objs.size + 1, [s1.heap.objs.size + 1, s1.heap.objs.size, a], [s1.heap.objs.size + 1, s1.heap.objs.size], its.toArray.size, _, _, _, pzN ns, (fun i y => ∃ t, y = .int (i : Int) t), rfl,
          (fun A' hA => (WalksT.enumFrom 0 (drawsK (b := b) (A := A'.in1) hA s1.heap.objs.size a (Nat.ne_of_lt la) its.toArray) (s1.heap.objs.size + 1) hei (by simp; exact ad_in la) (by simp)).toU), ?_, ?_, ?_, lim2.extBut hx hcP, ?_, ?_, ?_⟩
        · rintro i vals ⟨t, x, _, rfl⟩
          exact ⟨_, _, rfl⟩
        · have k3 : ∀ b ∈ [s1.heap.objs.size + 1, s1.heap.objs.size, a], ∀ o, h'.get? b = some o → h3.get? b = some o := fun b hb o q => hx b o (fpP b hb) q
          refine ⟨⟨.none, ?_⟩, iterO_is (k3 _ (by simp) _ hit), ?_⟩
          · have z : (0 : Int) + ((0 : Nat) : Int) = 0 := rfl
            rw [z]
            exact k3 _ (by simp) _ hen
          · cases b with
            | true => obtain ⟨o, q1, q2⟩ := p'; exact ⟨o, k3 _ (by simp) _ (hk _ _ q1), q2⟩
            | false => obtain ⟨o, q1, q2⟩ := p'; exact ⟨o, k3 _ (by simp) _ (hk _ _ q1), q2⟩
        · intro b hb
          have q := ad_lt la (show b = s1.heap.objs.size + 1 ∨ b = s1.heap.objs.size ∨ b = a by simpa using hb)
          exact Nat.lt_of_lt_of_le q (by rw [← hsz]; exact hsz3)
        · intro z
          exact ad_no hcl (by simpa using z)
        · intro href hhref
          refine ⟨fun A' E' i va vb s₂ m₂ hA hPt hn hma hmb hkp => ?_, fun A' E' i va vb s₂ m₂ hA hPt hpz hn hma hmb hkp => ?_⟩
          · obtain ⟨t, x, hx1, hx2⟩ := hPt
            obtain ⟨z, t2, hz1, hz2⟩ := at_int i x hx1
            have e2 : vb = x := Option.some.inj (show some vb = some x from congrArg (fun r : Array Value => r[1]?) hx2)
            rw [hz2] at e2
            rw [e2] at hmb
            refine wpAny_tests_one (wpAny_isTrue_Compare1 ?_)
            refine wpAny_Name (wpAny_loadName_local S.kind S.lb hn hmb ?_) S.db
            refine wpAny_Constant_int (PySem.P.ne_int (wpAny_truthy_bool ⟨?_, keeps_tok _ _⟩))
            unfold pzN
            rw [hz1]
          · obtain ⟨t, x, hx1, hx2⟩ := hPt
            have e1 : va = .int (0 + (i : Int)) t := Option.some.inj (show some va = some (.int (0 + (i : Int)) t) from congrArg (fun r : Array Value => r[0]?) hx2)
            refine wpAny_Name (wpAny_loadName_local S.kind S.la hn hma ?_) S.da
            exact ⟨⟨t, by rw [e1, Int.zero_add]⟩, keeps_refl _⟩
        · intro g h5 tk5 gs hgb hag hsz5 hk5 W5 hat
          have sizeI : its.toArray.size = ns.length := by simpa using lenI
          rw [sizeI] at W5 hat
          refine hQ ns H1 g _ q1 ⟨_, _, _, _, _, W5.in4_1, hat, hat.1.typeIs, ?_, fun s' hm => ?_⟩
          · rintro j y ⟨i, hij, t, ey⟩
            exact ⟨i, t, hij, ey⟩
          · obtain ⟨more, em⟩ := hmore
            have nwr : ∀ b u, s1.heap.get? b = some u → b ∉ h3.objs.size :: [s1.heap.objs.size + 1, s1.heap.objs.size] := fun b u e hb => by
              have hl := Heap.lt_size e
              have h9 : s1.heap.objs.size + 2 ≤ h3.objs.size := by rw [← hsz]; exact hsz3
              exact ad_no3 hl h9 (by simpa using hb)
            have J := inv_tab (more := more) (h' := s'.heap) (g' := s'.gens) (d' := s'.drawn) (t' := s'.toks) I1 hP (fun b u hb e => hm.heap b u (nwr b u e) (hk5 b u (keep3 b u hb e)))
              (by rw [← em]; exact hm.heap P _ (nwr P _ hPs) (hk5 P _ hP3)) (AllBare.movedS (I1.bare.push hgb) hm)
            rw [sh_eta s1 s' hm.os] at J
            exact ⟨upd H1 P (.tbl (ps ++ more)), ⟨⟨ps ++ more, upd_same, by rw [← em]; exact ht3⟩, fun b hb => upd_ne hb⟩, J⟩
      refine ⟨lim2, ?_⟩
      cases hf : codeAmong gpos ps.toList with
      | none =>
        refine wpAny_genexprCodeX hcode (cd.code hP2 ht) (cd.tab hP2) hf fun c' h4 tk hx hge hlt hco' _ htab' _ => ?_
        obtain ⟨o1, vs, f1, tf, fl, tg, inF, tx, tt, op, _, _, _, _, _, _, _, _, _, htr, _⟩ := hco'
        exact cont _ h4 tk _ hx (Nat.le_trans hge (Nat.le_of_lt hlt)) htab'.2 ⟨_, rfl⟩ htr
      | some cv =>
        refine wpAny_genexprCode_hit hcode (cd.code hP2 ht) hf ?_
        exact cont cv h' s1.toks ps (Heap.ExtBut.refl _ _) (Nat.le_refl _) hP2 ⟨#[], by simp⟩ ht
def fstV (ns : List Int) : V := match (passing (pzN ns) ns.length 0)[0]? with
  | some i => .int (i : Nat)
  | none => .non
def tFst (K : PySem.W.Frag) (P : Addr) (te : TE) : TE := fun σ H Q => te σ H fun v H1 => ∃ (b : Bool) (a : Addr) (ns : List Int), v = .ref a ∧ SqK b K H1 a (ns.map V.int) ∧ TabG H1 P ∧ ∀ H2, Tabbed P H1 H2 → Q (fstV ns) H2
theorem pe_fst {c P : Addr} {e : Expr} {te : TE} {xa xb : Str} {p p1 pa pb pt pe pc p2 p3 p4 p5 pos gpos : Pos} {kt jj j5 : Nat} {scope : Scope} {k : Nat}
    (hr : Room k X.A) (hn : Gl X "next") (hnm : X.mg "next" = none) (TB : TabB X.base X.mg c P) (hcode : X.env.code = .ref c) (S : GenS2 X.env scope xa xb) (hg : Gl X "enumerate") (hm : X.mg "enumerate" = none) (he : PE X e te) (hst : isStar e = false)
    (hs : ∀ v, genFold (.Call (.Name "enumerate" pe) [e] [] pc) X.env v = pure v) :
    PE X (.Call (.Name "next" p) [.GeneratorExp (.Name xa p1) [⟨.Tuple [.Name xa pa, .Name xb pb] kt pt, .Call (.Name "enumerate" pe) [e] [] pc, [.Compare (.Name xb p2) [.NotEq] [.Constant (.int 0) jj p3] p4], 0⟩] scope gpos, .Constant .none j5 p5] [] pos) (tFst X.K P te) := by
  refine ⟨fun pins s σ H Q I h => ?_⟩
  have e1 : starEach [.GeneratorExp (.Name xa p1) [⟨.Tuple [.Name xa pa, .Name xb pb] kt pt, .Call (.Name "enumerate" pe) [e] [] pc, [.Compare (.Name xb p2) [.NotEq] [.Constant (.int 0) jj p3] p4], 0⟩] scope gpos, .Constant .none j5 p5] X.env =
      (false, eval (.GeneratorExp (.Name xa p1) [⟨.Tuple [.Name xa pa, .Name xb pb] kt pt, .Call (.Name "enumerate" pe) [e] [] pc, [.Compare (.Name xb p2) [.NotEq] [.Constant (.int 0) jj p3] p4], 0⟩] scope gpos) X.env) :: starEach [.Constant .none j5 p5] X.env := by rfl
  refine wpAny_Call_Name_kw (ld_blt I hn hnm boot_next ?_)
  refine PyProof.Rows.callWith_builtin1 ?_ e1 (by rfl)
  rw [e1]
  show wpAny _ _ (spliced ((false, eval (.GeneratorExp (.Name xa p1) [⟨.Tuple [.Name xa pa, .Name xb pb] kt pt, .Call (.Name "enumerate" pe) [e] [] pc, [.Compare (.Name xb p2) [.NotEq] [.Constant (.int 0) jj p3] p4], 0⟩] scope gpos) X.env) :: [(false, eval (.Constant .none j5 p5) X.env)])) _ _ s
  refine Calls.spliced_cons (gen_en (R := fun ns H1 => ∀ H2, Tabbed P H1 H2 → Q (fstV ns) H2) hr TB hcode S hg hm he hst hs I h fun ns H1 g s5 hR hG => ?_)
  obtain ⟨fp, wr, G, F, St, W, st0, ty, hF, hI⟩ := hG
  refine Calls.spliced_cons (Constant_none (Calls.spliced_nil ?_))
  refine Calls.call_function_entry (by decide +kernel) (by decide +kernel) PySem.W.kdk_entry_next (PySem.W.kdk_args_next2 _ _) ?_
  unfold Builtin.«next»
  refine wpAny_bind (m := someArgs "next" 1 2 _) (wpAny_of_eq (a := [Value.ref g, Value.none]) (by first | rfl | kernel_rfl!) ?_)
  dsimp only
  refine wpAny_bind (wpAny_specialOf (name := Str.ofString "__next__") ty slot_gen_next.lookup ?_)
  refine wpAny_ite_split (fun hab => absurd hab (by decide)) (fun _ => ?_)
  cases hp : (passing (pzN ns) ns.length 0)[0]? with
  | none =>
    have hl : (passing (pzN ns) ns.length 0).length = 0 := by
      have := List.getElem?_eq_none_iff.mp hp
      omega
    rw [hl] at W
    refine wpAny_bind (W.done s5 _ _ st0 fun s' hmv => ?_)
    obtain ⟨H2, hT, J⟩ := hI s' hmv
    have ef : fstV ns = .non := by unfold fstV; rw [hp]
    refine wpAny_pure ⟨_, rfl, .non, H2, J, rfl, ?_⟩
    rw [← ef]
    exact hR H2 hT
  | some i =>
    have hl := (List.getElem?_eq_some_iff.mp hp).1
    refine wpAny_bind (W.item 0 s5 _ _ hl st0 fun v s' hv st' hmv => ?_)
    obtain ⟨i2, t, hi2, rfl⟩ := hF 0 v hv
    rw [hp] at hi2
    cases hi2
    obtain ⟨H2, hT, J⟩ := hI s' hmv
    have ef : fstV ns = .int (i : Nat) := by unfold fstV; rw [hp]
    refine wpAny_pure ⟨_, rfl, .int (i : Nat), H2, J, ⟨t, rfl⟩, ?_⟩
    rw [← ef]
    exact hR H2 hT
end
end Ev
-- EvT2
/-! max and any of rows of ints, a tuple's index -/
namespace Ev
open PySem PySem.Spec PyProof.Rows L2
theorem walksK {b : Bool} {prog : Program} {w : World} {A : Around} (hh : A.handled = none) (it l : Addr) (hne : l ≠ it) (items : Array Value) :
    Walks prog w A it [it, l] [it] items.size (fun i v => items[i]? = some v) (fun i h => IterK b h it l i ∧ ObjK b h l items) := by
  cases b with
  | true => exact Walks.list hh it l hne items
  | false => exact Walks.tuple hh it l hne items
section
variable {X : Cx}
/-- what stands behind an iterator's birth -/
theorem iterK_new {b : Bool} {prog : Program} {w : World} {A : Around} {E : Value → Shared → Prop} {s : Shared} {l : Addr} {items : Array Value} {Q : Value → Shared → Prop} (hl : ObjK b s.heap l items)
    (h : ∀ s₂ : Shared, s₂ = { s with heap := s.heap.push (iterO b l) } → (IterK b s₂.heap s.heap.objs.size l 0 ∧ ObjK b s₂.heap l items) → (∀ c ∈ [s.heap.objs.size, l], c < s₂.heap.objs.size) → l ≠ s.heap.objs.size → Q (.ref s.heap.objs.size) s₂) :
    wpAny (model prog w) A (pyIter (.ref l)) Q E s := by
  have lt := objK_lt hl
  have B := beginsK b l items
  refine B.iter prog w A E s Q hl (h _ rfl ⟨iterO_is (Heap.get?_push_size _ B.free), B.keeps _ _ hl fun c o e => Heap.get?_push_of_some _ e⟩ (fun c hc => ?_) (Nat.ne_of_lt lt))
  show c < (s.heap.push _).objs.size
  rw [Heap.size_push]
  rcases List.mem_cons.mp hc with z | z
  · rw [z]; exact Nat.lt_succ_self _
  · rw [List.mem_singleton.mp z]; exact Nat.lt_succ_of_lt lt
theorem keptK {s : Shared} {o : Obj} {h' : Heap} (hk : ∀ c u, c ∉ [s.heap.objs.size] → (s.heap.push o).get? c = some u → h'.get? c = some u) : ∀ c u, s.heap.get? c = some u → h'.get? c = some u := fun c u e => by
  refine hk c u (fun hm => ?_) (Heap.get?_push_of_some _ e)
  rw [List.mem_singleton.mp hm] at e
  exact absurd (Heap.lt_size e) (Nat.lt_irrefl _)
def rMaxI (K : PySem.W.Frag) : List V → Hp → VK → Prop := fun vs H Q => ∃ (b : Bool) (a : Addr) (ns : List Int), vs = [V.ref a] ∧ SqK b K H a (ns.map V.int) ∧ 0 < ns.length ∧ ∀ m, m ∈ ns → (∀ y, y ∈ ns → y ≤ m) → Q (.int m) H
theorem cr_maxI (hc : X.calm = true) : CallR X (.builtin "max") (rMaxI X.K) := by
  intro pins s σ H vs us Q I r h
  obtain ⟨b, a, ns, rfl, hs, hne, q⟩ := h
  obtain ⟨its, rv, hl⟩ := sqK_at I hs
  rw [Vals.ref1 r]
  have hi := rv.ints
  obtain ⟨xs, e⟩ := hi.allInts.items
  have hn : numsOf (intItems xs).toList = ns := by rw [← e]; exact hi.numsOf
  rw [nums_intItems] at hn
  subst hn
  rw [e] at hl
  have hsz : 0 < xs.size := by simpa using hne
  refine call_max_walk (iterK_new hl fun s₂ e2 st hfp hne2 => ?_)
  subst e2
  refine ⟨_, _, _, _, _, _, _, rfl, walksK (b := b) (A := X.A.in1) (I.ok.hd hc) _ a hne2 (intItems xs), st, hfp, by simpa [intItems] using hsz, CmpOf.ints_gt (numAt xs) (fun _ _ => intItems_at), fun v h' tk hP hk => ?_⟩
  have hP' : (intItems xs)[argBest (fun i j => decide (numAt xs i > numAt xs j)) (xs.size - 1)]? = some v := by simpa [intItems] using hP
  obtain ⟨t, rfl⟩ := intItems_at hP'
  obtain ⟨h1, h2⟩ := argBest_gt (numAt xs) (xs.size - 1)
  refine ⟨.int _, H, I.kept (keptK hk), ⟨_, rfl⟩, q _ ?_ fun z hz => ?_⟩
  · rw [numAt_eq]; exact PySem.getD_mem (by rw [List.length_map, Array.length_toList]; omega)
  · obtain ⟨j, hj, rfl⟩ := mem_getD hz
    rw [List.length_map, Array.length_toList] at hj
    rw [← numAt_eq]; exact h2 j (by omega)
def rAnyI (K : PySem.W.Frag) : List V → Hp → VK → Prop := fun vs H Q => ∃ (b : Bool) (a : Addr) (ns : List Int), vs = [V.ref a] ∧ SqK b K H a (ns.map V.int) ∧ Q (.bl (ns.any fun x => x != 0)) H
theorem truth_ints {prog : Program} {w : World} {A : Around} {ns : List Int} {its : List Value} (rv : Vals (ns.map V.int) its) :
    TruthOf prog w A (fun i v => its.toArray[i]? = some v) (fun i => ns.getD i 0 != 0) := fun i v s Q E hv hq => by
  have hv' : its[i]? = some v := by simpa using hv
  have hl := rv.length
  rw [List.length_map] at hl
  have hi : i < ns.length := by have := (List.getElem?_eq_some_iff.mp hv').1; omega
  obtain ⟨u, hu, ru⟩ := rv.get (i := i) (x := V.int ns[i]) (by rw [List.getElem?_map, List.getElem?_eq_getElem hi]; rfl)
  rw [hv'] at hu
  cases hu
  obtain ⟨t, et⟩ := ru
  have hg : ns.getD i 0 = ns[i] := by rw [List.getD_eq_getElem?_getD, List.getElem?_eq_getElem hi]; rfl
  have hq' : Q (ns.getD i 0 != 0) s := hq
  rw [hg] at hq'
  rw [et]
  exact PySem.P.truthy_int hq'
theorem any_rangeI : ∀ ns : List Int, (List.range ns.length).any (fun i => ns.getD i 0 != 0) = ns.any fun x => x != 0
  | [] => rfl
  | n :: ns => by
    rw [List.length_cons, List.range_succ_eq_map, List.any_cons, List.any_map, List.any_cons, ← any_rangeI ns]
    rfl
theorem cr_anyI (hc : X.calm = true) : CallR X (.builtin "any") (rAnyI X.K) := by
  intro pins s σ H vs us Q I r h
  obtain ⟨b, a, ns, rfl, hs, q⟩ := h
  obtain ⟨its, rv, hl⟩ := sqK_at I hs
  rw [Vals.ref1 r]
  refine call_any_walk (iterK_new hl fun s₂ e2 st hfp hne => ?_)
  subst e2
  refine ⟨_, _, _, _, _, _, _, rfl, walksK (b := b) (A := X.A.in1) (I.ok.hd hc) _ a hne its.toArray, st, truth_ints rv, fun h' tk hk => ?_⟩
  refine ⟨.bl _, H, I.kept (keptK hk), ?_, q⟩
  show Value.bool _ = Value.bool _
  have hl := rv.length
  rw [List.length_map] at hl
  rw [← any_rangeI, List.size_toArray, hl]
/-- a tuple's index, ints -/
theorem mt_tupix : MtR X "tuple.index" (fun x xs H Q => ∃ (p : Addr) (ns : List Int) (z : Int) (j : Nat), x = .ref p ∧ xs = [.int z] ∧ SqT X.K H p (ns.map V.int) ∧ ns[j]? = some z ∧ (∀ m, m < j → ns[m]? ≠ some z) ∧ Q (.int (j : Nat)) H) := by
  intro pins s σ H x xs v us Q I rx rs h
  obtain ⟨p, ns, z, j, rfl, rfl, hq, hy, hno, q⟩ := h
  cases rx
  cases rs with
  | cons ry rt =>
    rename_i uy ut
    cases rt
    obtain ⟨its, r, pl, hz⟩ := I.tuple hq
    obtain ⟨⟨cls, dd, dt, sl⟩, ho, hc, n, hd⟩ := pl
    simp only at hc hd
    subst hc
    subst hd
    have hl : its.toArray.size = ns.length := by rw [List.size_toArray, ← r.length, List.length_map]
    have hj : j < its.toArray.size := by rw [hl]; exact (List.getElem?_eq_some_iff.mp hy).1
    have fl : (ns.map V.int).all flatV = true := List.all_eq_true.mpr fun x hx => by
      obtain ⟨i, _, rfl⟩ := List.mem_map.mp hx
      rfl
    have at' : ∀ (m : Nat) (hm : m < its.toArray.size), ∃ i, ns[m]? = some i ∧ RelV (.int i) its.toArray[m] := fun m hm => by
      have hm' : m < ns.length := by rw [← hl]; exact hm
      obtain ⟨u, hu, ru⟩ := r.get (i := m) (x := .int ns[m]) (by simp [hm'])
      refine ⟨ns[m], List.getElem?_eq_getElem hm', ?_⟩
      have e := (List.getElem?_eq_some_iff.mp hu).2
      have e1 : its.toArray[m] = u := by rw [← e]; simp
      rw [e1]
      exact ru
    refine call_meets PySem.F.slot_tuple_index ⟨_, ho, rfl⟩ PySem.F.entry_tuple_index (PySem.F.args_tuple_index_2 _ _) (TI.tuple_indexAt p its.toArray n dd sl uy (eqU (.int z)) j hj ?_ ?_)
      ⟨ho, fun u hu => mem_eqAt ry rfl r fl u (by simpa using hu), ⟨.int (j : Nat), H, I.tok _, ⟨_, rfl⟩, q⟩⟩
    · obtain ⟨i, h1, h2⟩ := at' j hj
      rw [hy] at h1
      cases h1
      rw [eqU_of h2 rfl]
      show decide _ = true
      simp
    · intro m hm hmj
      obtain ⟨i, h1, h2⟩ := at' m hm
      rw [eqU_of h2 rfl]
      have ne : i ≠ z := fun e => hno m hmj (by rw [h1, e])
      show decide _ = false
      simp [ne]
end
end Ev
-- EvH
/-! what is walked -/
namespace Ev
open PySem PySem.Spec PyProof.Rows L2
/-- an iterator gives what a source says -/
def SrcIt (g : G) (s : Src) (J : It) (ρ0 : List Addr) (H0 : Hp) : Prop :=
  ∀ (ρ : List Addr) (h : Hh) (H : Hp) (i : Nat), Mon0 g ρ0 H0 ρ H → Sim g ρ h H →
    (srcAt h s i = some none → J.stop i H) ∧
    (∀ d, srcAt h s i = some (some d) → J.go i H ∧ ∀ x H', J.yld i H x H' → Mono g ρ H ρ H' ∧ Sim g ρ h H' ∧ Rep g ρ H' d x)
def isL : D → Bool
  | .ptr _ => true
  | .frl _ => true
  | _ => false
section
variable {g : G} {ρ : List Addr} {H : Hp} {h : Hh}
theorem items_kind {d : D} {v : V} {ds : List D} (s : Sim g ρ h H) (r : Rep g ρ H d v) (e : itemsOf h d = some ds) :
    ∃ (a : Addr) (vs : List V), v = .ref a ∧ SqK (isL d) g.K H a vs ∧ Reps g ρ H ds vs := by
  cases r with
  | pure r =>
    cases r with
    | tup q rr => cases e; exact ⟨_, _, rfl, q.t, rr.reps⟩
    | frl q rr => cases e; exact ⟨_, _, rfl, q.seq, rr.reps⟩
    | _ => cases e
  | ptr z =>
    obtain ⟨vs, h1, h2⟩ := s.get (show h[_]? = some ds from e) z
    exact ⟨_, vs, rfl, SqL.of h1, h2⟩
  | mtp q rr => cases e; exact ⟨_, _, rfl, q.t, rr⟩
/-- the item of a row at a place -/
theorem item_at {ds : List D} {vs : List V} {i : Nat} {d : D} {x : V} (r : Reps g ρ H ds vs) (e : ds[i]? = some d) (ex : vs[i]? = some x) : Rep g ρ H d x := by
  obtain ⟨v, h1, h2⟩ := r.get e
  rw [ex] at h1
  cases h1
  exact h2
theorem src_sq {d : D} {a : Addr} (r0 : Rep g ρ H d (.ref a)) : SrcIt g (.sq d) (match isL d with | true => Itl g.K a | false => Itt g.K a) ρ H := by
  intro ρ1 h1 H1 i m sim
  have r1 := r0.mono0 m.h m.pf
  have e0 : srcAt h1 (.sq d) i = sqAt h1 d i := rfl
  rw [e0]
  unfold sqAt
  cases c : itemsOf h1 d with
  | none => exact ⟨fun z => (by cases z), fun _ z => (by cases z)⟩
  | some ds =>
    obtain ⟨a', vs, ea, q, rr⟩ := items_kind sim r1 c
    cases ea
    have hl := rr.length
    refine ⟨fun z => ?_, fun e z => ?_⟩
    · have z' : ds[i]? = none := Option.some.inj z
      have := List.getElem?_eq_none_iff.mp z'
      cases k : isL d with
      | true => rw [k] at q; exact ⟨vs, q, by omega⟩
      | false => rw [k] at q; exact ⟨vs, q, by omega⟩
    · have z' : ds[i]? = some e := Option.some.inj z
      obtain ⟨x, hx, rx⟩ := rr.get z'
      cases k : isL d with
      | true =>
        rw [k] at q
        exact ⟨⟨vs, x, q, hx⟩, fun y H' ⟨eh, hy⟩ => by
          subst eh
          exact ⟨Mono.refl g ρ1 _, sim, item_at rr z' (hy vs q)⟩⟩
      | false =>
        rw [k] at q
        exact ⟨⟨vs, x, q, hx⟩, fun y H' ⟨eh, hy⟩ => by
          subst eh
          exact ⟨Mono.refl g ρ1 _, sim, item_at rr z' (hy vs q)⟩⟩
theorem src_en {d : D} {a : Addr} (r0 : Rep g ρ H d (.ref a)) : SrcIt g (.en d) (ItE g.K (isL d) a) ρ H := by
  intro ρ1 h1 H1 i m sim
  have r1 := r0.mono0 m.h m.pf
  unfold srcAt
  dsimp only
  cases c : itemsOf h1 d with
  | none => exact ⟨fun z => (by cases z), fun _ z => (by cases z)⟩
  | some ds =>
    obtain ⟨a', vs, ea, q, rr⟩ := items_kind sim r1 c
    cases ea
    have hl := rr.length
    dsimp only
    cases c2 : ds[i]? with
    | none =>
      dsimp only
      cases c3 : Nat.beq i ds.length with
      | false => exact ⟨fun z => (by cases z), fun _ z => (by cases z)⟩
      | true =>
        have := Nat.eq_of_beq_eq_true c3
        exact ⟨fun _ => ⟨vs, q, by omega⟩, fun _ z => (by cases z)⟩
    | some x =>
      dsimp only
      refine ⟨fun z => (by cases z), fun e z => ?_⟩
      cases z
      obtain ⟨w, hw, rw'⟩ := rr.get c2
      refine ⟨⟨vs, w, q, hw⟩, fun y H' hy => ?_⟩
      obtain ⟨T, o, w', rfl, hT, hd, rfl, hall⟩ := hy
      have ew := hall vs q
      have mn : Mono g ρ1 H1 ρ1 (upd H1 T (.frz o (.tup [.int (i : Nat), w']))) := Mono.new hT
      exact ⟨mn, sim.new hT, Rep.mkT (SqN.new hd) (.cons (.pure (.int _)) (.cons ((item_at rr c2 ew).mono mn) .nil))⟩
theorem src_zp {d e : D} {a a2 : Addr} (r0 : Rep g ρ H d (.ref a)) (s0 : Rep g ρ H e (.ref a2)) : SrcIt g (.zp d e) (ItZ g.K (isL d) (isL e) a a2) ρ H := by
  intro ρ1 h1 H1 i m sim
  have r1 := r0.mono0 m.h m.pf
  have s1 := s0.mono0 m.h m.pf
  unfold srcAt
  dsimp only
  cases c : itemsOf h1 d with
  | none => exact ⟨fun z => (by cases z), fun _ z => (by cases z)⟩
  | some ds =>
    cases c' : itemsOf h1 e with
    | none => exact ⟨fun z => (by cases z), fun _ z => (by cases z)⟩
    | some es =>
      obtain ⟨a', vs, ea, q, rr⟩ := items_kind sim r1 c
      cases ea
      obtain ⟨b', ws, eb, q2, ss⟩ := items_kind sim s1 c'
      cases eb
      have hl := rr.length
      have hl2 := ss.length
      dsimp only
      have fin : ∀ (o : Option (Option D)), (ds[i]? = none ∨ es[i]? = none) → o = (match Nat.ble i ds.length && Nat.ble i es.length with | true => some none | false => none) → (o = some none → (ItZ g.K (isL d) (isL e) a a2).stop i H1) ∧ (∀ d', o = some (some d') → False) := fun o hn eo => by
        cases c3 : Nat.ble i ds.length && Nat.ble i es.length with
        | false =>
          rw [c3] at eo
          subst eo
          exact ⟨fun z => (by cases z), fun _ z => (by cases z)⟩
        | true =>
          rw [c3] at eo
          subst eo
          obtain ⟨l1, l2⟩ := Bool.and_eq_true_iff.mp c3
          have l1 := Nat.le_of_ble_eq_true l1
          have l2 := Nat.le_of_ble_eq_true l2
          refine ⟨fun _ => ⟨vs, ws, q, q2, by omega, by omega, ?_⟩, fun _ z => (by cases z)⟩
          rcases hn with z | z
          · have := List.getElem?_eq_none_iff.mp z; exact .inl (by omega)
          · have := List.getElem?_eq_none_iff.mp z; exact .inr (by omega)
      cases c2 : ds[i]? with
      | none =>
        obtain ⟨f1, f2⟩ := fin _ (.inl c2) rfl
        exact ⟨f1, fun d' z => (f2 d' z).elim⟩
      | some x =>
        cases c4 : es[i]? with
        | none =>
          obtain ⟨f1, f2⟩ := fin _ (.inr c4) rfl
          exact ⟨f1, fun d' z => (f2 d' z).elim⟩
        | some y =>
          dsimp only
          refine ⟨fun z => (by cases z), fun e' z => ?_⟩
          cases z
          obtain ⟨w, hw, rw'⟩ := rr.get c2
          obtain ⟨w2, hw2, rw2⟩ := ss.get c4
          refine ⟨⟨vs, ws, w, w2, q, q2, hw, hw2⟩, fun y' H' hy => ?_⟩
          obtain ⟨T, o, u1, u2, rfl, hT, hd, rfl, h1', h2'⟩ := hy
          have e1 := h1' vs q
          have e2 := h2' ws q2
          have mn : Mono g ρ1 H1 ρ1 (upd H1 T (.frz o (.tup [u1, u2]))) := Mono.new hT
          exact ⟨mn, sim.new hT, Rep.mkT (SqN.new hd) (.cons ((item_at rr c2 e1).mono mn) (.cons ((item_at ss c4 e2).mono mn) .nil))⟩
theorem src_rg {lo c : Int} {n : Nat} : SrcIt g (.rg lo c n) (Itc lo c n) ρ H := by
  intro ρ1 h1 H1 i m sim
  unfold srcAt
  dsimp only
  cases k : Nat.blt i n with
  | true =>
    have := Nat.le_of_ble_eq_true (show Nat.ble (i + 1) n = true from k)
    refine ⟨fun z => (by cases z), fun d z => ?_⟩
    cases z
    exact ⟨this, fun x H' ⟨e1, e2⟩ => by
      subst e1 e2
      exact ⟨Mono.refl g ρ1 _, sim, .pure (.int _)⟩⟩
  | false =>
    have : n ≤ i := by
      cases Nat.lt_or_ge i n with
      | inl l =>
        have := Nat.ble_eq_true_of_le (show i + 1 ≤ n from l)
        rw [show Nat.blt i n = Nat.ble (i + 1) n from rfl, this] at k
        cases k
      | inr l => exact l
    exact ⟨fun _ => this, fun _ z => (by cases z)⟩
theorem src_rg1 {lo : Int} {n : Nat} : SrcIt g (.rg lo 1 n) (Itr lo n) ρ H := by
  intro ρ1 h1 H1 i m sim
  obtain ⟨k1, k2⟩ := src_rg (g := g) (ρ := ρ) (H := H) (lo := lo) (c := 1) (n := n) ρ1 h1 H1 i m sim
  refine ⟨fun z => k1 z, fun d z => ?_⟩
  obtain ⟨q1, q2⟩ := k2 d z
  exact ⟨q1, fun x H' ⟨e1, e2⟩ => q2 x H' ⟨e1, by rw [e2, Int.mul_one]⟩⟩
end
theorem PI.imp {X : Cx} {tg it : Expr} {t t' : TI} (h : PI X tg it t) (i : ∀ σ H R, t' σ H R → t σ H R) : PI X tg it t' := ⟨fun pins s σ H R I w => h.run pins s σ H R I (i σ H R w)⟩
section
variable {X : Cx} {tg : Expr}
def iSq (K : PySem.W.Frag) (tl : TE) : TI := fun σ H R => tl σ H fun x H1 => ∃ a, x = .ref a ∧ (((∃ xs, SqL K H1 a xs) ∧ R (Itl K a) H1) ∨ ((∃ xs, SqT K H1 a xs) ∧ R (Itt K a) H1))
theorem pi_sq {l : Expr} {tl : TE} (hl : PE X l tl) : PI X tg l (iSq X.K tl) := by
  refine ⟨fun pins s σ H R I h => ?_⟩
  refine thn (hl.run pins s σ H _ I h) fun v s1 ⟨x, H1, I1, r1, q1⟩ => ?_
  obtain ⟨a, e, ⟨⟨xs, hq⟩, q⟩ | ⟨⟨xs, hq⟩, q⟩⟩ := q1
  · subst e
    cases r1
    obtain ⟨its, rv, p, hz⟩ := I1.list hq
    refine wpAny_pyIter_list p.isList ?_
    refine ⟨s1.heap.objs.size, [s1.heap.objs.size], _, _, H1, rfl, I1.kept (t' := s1.toks) fun b o e => Heap.get?_push_of_some _ e, turn_list a _, ⟨_, Heap.get?_push_size _ rfl, rfl, rfl⟩, fun b hb => ?_, q⟩
    have e : b = s1.heap.objs.size := by simpa using hb
    subst e
    exact I1.fpOk (Nat.le_refl _) (I1.hok.fresh (Nat.le_refl _))
  · subst e
    cases r1
    obtain ⟨its, rv, p, hz⟩ := I1.tuple hq
    refine wpAny_pyIter_tuple (show s1.heap.IsTuple a its.toArray from p) ?_
    refine ⟨s1.heap.objs.size, [s1.heap.objs.size], _, _, H1, rfl, I1.kept (t' := s1.toks) fun b o e => Heap.get?_push_of_some _ e, turn_tuple a _, ⟨_, Heap.get?_push_size _ rfl, rfl, rfl⟩, fun b hb => ?_, q⟩
    have e : b = s1.heap.objs.size := by simpa using hb
    subst e
    exact I1.fpOk (Nat.le_refl _) (I1.hok.fresh (Nat.le_refl _))
end
section
variable (P : Pg) (g : G)
def tI (n : Nat) (e : I) : TI := fun σ H R => ∃ (ρ : List Addr) (h : Hh) (sg : Sg), Sim g ρ h H ∧ EnvR g ρ H sg σ ∧ Run g ρ H (ki fun s h' ρ' H' => ∀ J, SrcIt g s J ρ' H' → R J H') (ev P n e sg h)
end
end Ev
-- EvH2
/-! max and any: rows of ints -/
namespace Ev
open PySem PySem.Spec PyProof.Rows L2
theorem maxL_mem : ∀ (m : Int) (xs : List Int), maxL m xs ∈ m :: xs
  | m, [] => List.mem_cons_self ..
  | m, x :: xs => by
    have h := maxL_mem (if x > m then x else m) xs
    unfold maxL
    rcases List.mem_cons.mp h with e | e
    · rw [e]
      by_cases c : x > m
      · simp [c]
      · simp [c]
    · exact List.mem_cons_of_mem _ (List.mem_cons_of_mem _ e)
theorem maxL_ge : ∀ (m : Int) (xs : List Int), m ≤ maxL m xs ∧ ∀ y ∈ xs, y ≤ maxL m xs
  | m, [] => ⟨Int.le_refl _, fun y h => by cases h⟩
  | m, x :: xs => by
    obtain ⟨h1, h2⟩ := maxL_ge (if x > m then x else m) xs
    unfold maxL
    by_cases c : x > m
    · simp only [c, if_true] at h1 h2 ⊢
      refine ⟨by omega, fun y hy => ?_⟩
      rcases List.mem_cons.mp hy with e | e
      · rw [e]; exact h1
      · exact h2 y e
    · simp only [c, if_false] at h1 h2 ⊢
      refine ⟨h1, fun y hy => ?_⟩
      rcases List.mem_cons.mp hy with e | e
      · rw [e]; omega
      · exact h2 y e
theorem max_only {m : Int} {i : Int} {is : List Int} (h1 : m ∈ i :: is) (h2 : ∀ y ∈ i :: is, y ≤ m) : m = maxL i is := by
  have a := h2 _ (maxL_mem i is)
  obtain ⟨b1, b2⟩ := maxL_ge i is
  rcases List.mem_cons.mp h1 with e | e
  · rw [e] at a ⊢; omega
  · have := b2 m e; omega
section
variable {g : G}
theorem inv_row {ρ : List Addr} {H : Hp} {h : Hh} {ds : List D} {xs : List V} {f : D → List D → R} {k : Kt} (sim : Sim g ρ h H)
    (hr : Run g ρ H k (match ds with | [x] => (match itemsOf h x with | some es => f x es | none => .no) | _ => .no)) (rr : Reps g ρ H ds xs) :
    ∃ (d : D) (a : Addr) (es : List D) (vs : List V), ds = [d] ∧ xs = [.ref a] ∧ SqK (isL d) g.K H a vs ∧ itemsOf h d = some es ∧ Reps g ρ H es vs ∧ Run g ρ H k (f d es) := by
  split at hr
  · rename_i d
    cases c : itemsOf h d with
    | none => rw [c] at hr; exact (show False from hr).elim
    | some es =>
      rw [c] at hr
      obtain ⟨v, rfl, rd⟩ := rr.one
      obtain ⟨a, vs, rfl, q, r2⟩ := items_kind sim rd c
      exact ⟨d, a, es, vs, rfl, rfl, q, c, r2, hr⟩
  · exact (show False from hr).elim
theorem cr_max1 {X : Cx} (hK : X.K = g.K) (hc : X.calm = true) : CallR X (.builtin "max") (rBi g .max1) := by
  intro pins s σ H xs us Q I r hr
  obtain ⟨ρ, h, ds, sim, rr, hr⟩ := hr
  obtain ⟨d, a, es, vs, rfl, rfl, q, e, r2, hr⟩ := inv_row (f := fun x ds => match intsD ds with | some (i :: is) => .ok (.int (maxL i is)) h | _ => .no) sim hr rr
  cases c : intsD es with
  | none => rw [c] at hr; exact (show False from hr).elim
  | some is =>
    rw [c] at hr
    cases is with
    | nil => exact (show False from hr).elim
    | cons i is =>
      obtain rfl := ints_ok c r2
      rw [← hK] at q
      exact cr_maxI hc pins s σ H _ us Q I r ⟨_, a, i :: is, rfl, q, Nat.succ_pos _, fun m h1 h2 => by
        rw [max_only h1 h2]
        exact Run.mk hr sim (.pure (.int _))⟩
theorem cr_anyE {X : Cx} (hK : X.K = g.K) (hc : X.calm = true) : CallR X (.builtin "any") (rBi g .any) := by
  intro pins s σ H xs us Q I r hr
  obtain ⟨ρ, h, ds, sim, rr, hr⟩ := hr
  obtain ⟨d, a, es, vs, rfl, rfl, q, e, r2, hr⟩ := inv_row (f := fun x ds => match intsD ds with
        | some is => .ok (.bl (is.any fun i => i != 0)) h
        | none => match x with
          | .ptr a => match bls ds with
            | some bs => .ok (.bl (bs.any id)) h
            | none => .no
          | _ => .no) sim hr rr
  cases c : intsD es with
  | some is =>
    rw [c] at hr
    obtain rfl := ints_ok c r2
    rw [← hK] at q
    exact cr_anyI hc pins s σ H _ us Q I r ⟨_, a, is, rfl, q, Run.mk hr sim (.pure (.bl _))⟩
  | none =>
    rw [c] at hr
    cases d with
    | ptr n =>
      dsimp only at hr
      cases c2 : bls es with
      | none => rw [c2] at hr; exact (show False from hr).elim
      | some bs =>
        rw [c2] at hr
        obtain rfl := bls_ok c2 r2
        rw [← hK] at q
        exact cr_any hc pins s σ H _ us Q I r ⟨a, bs, rfl, q, Run.mk hr sim (.pure (.bl _))⟩
    | _ => exact (show False from hr).elim
end
end Ev
-- EvI
/-! expressions -/
namespace Ev
open PySem PySem.Spec PyProof.Rows L2
/-- what the module's names stand for -/
structure MgOk (P : Pg) (g : G) (M : Nm) (mg : Str → Option Value) : Prop where
  free : ∀ x ∈ M.free, mg x = none
  fn : ∀ (f : Nat) (x : Str) (ps : List Str), M.fs[f]? = some (x, ps) → mg x = some (.ref (g.fa f)) ∧ PySem.W.keepIn g.K (.ref (g.fa f)) = true
  con : ∀ (k : Nat) (x : Str) (d : D), M.cs[k]? = some x → P.cs[k]? = some d → ∃ (u : Value) (v : V), mg x = some u ∧ RelV v u ∧ ∀ H, RepP g H d v
  dic : ∀ (k : Nat) (x : Str) (ks : List (Int × D)), M.ds[k]? = some x → P.ds[k]? = some ks → ∃ a, mg x = some (.ref a) ∧ ∀ i d, lookI i ks = some d → ∃ v, KI g.K a i v ∧ ∀ H, RepP g H d v
/-- where an expression stands -/
structure XOk (P : Pg) (g : G) (M : Nm) (N : List Str) (X : Cx) (sc so : Scope) (n : Nat) : Prop where
  hK : X.K = g.K
  hN : X.N = N
  hsc : X.env.scope = sc
  nd : N.Nodup
  calm : X.calm = true
  room : Room n X.A
  mg : MgOk P g M X.mg
  loc : ∀ x, so.names.lookup x = some .local → sc.names.lookup x = some .local
  cel : ∀ x, so.names.lookup x = some .cell → sc.names.lookup x = some .cell ∧ X.fn x = true
  kind : sc.kind = .function
  pg : PgOk P g M X.K
  tbs : ∀ q ∈ g.tb, GxR.TabB X.base X.mg q.1 q.2
theorem XOk.down {P : Pg} {g : G} {M : Nm} {N : List Str} {X : Cx} {sc so : Scope} {n : Nat} (k : XOk P g M N X sc so (n + 1)) : XOk P g M N X sc so n :=
  ⟨k.hK, k.hN, k.hsc, k.nd, k.calm, k.room.mono (Nat.le_succ n), k.mg, k.loc, k.cel, k.kind, k.pg, k.tbs⟩
def spEv (P : Pg) (g : G) (n f : Nat) : Sp := fun vs H Q _ => ∃ (ρ : List Addr) (h : Hh) (ds : List D), Sim g ρ h H ∧ Reps g ρ H ds vs ∧ Run g ρ H (ke Q) (callF P n f ds h)
/-- the defs keep what the evaluator says -/
def FnsOk (P : Pg) (g : G) (M : Nm) (X : Cx) (n : Nat) : Prop := ∀ (f : Nat) (x : Str) (ps : List Str), M.fs[f]? = some (x, ps) →
  ∃ fd, FnOk X.prog X.w X.K X.mg X.base CX0 (n + 1) (g.fa f) fd ps (spEv P g n f) ∧ Binds X.K fd ps []
/-- what holds at a depth -/
structure Main (P : Pg) (g : G) (M : Nm) (n : Nat) : Prop where
  mE : ∀ (N : List Str) (X : Cx) (sc so : Scope), XOk P g M N X sc so n → ∀ (i : I) (e : Expr), ckE M N sc i e = true → PE X e (tE P g n i)
  mT : ∀ (N : List Str) (X : Cx) (sc so : Scope), XOk P g M N X sc so n → ∀ (i : I) (e : Expr), ckT M N sc i e = true → PT X e (tT P g n i)
  mA : ∀ (N : List Str) (X : Cx) (sc so : Scope), XOk P g M N X sc so n → ∀ (i : I) (e : List Expr), ckA M N sc i e = true → PA X e (tA P g n i)
  mI : ∀ (N : List Str) (X : Cx) (sc so : Scope), XOk P g M N X sc so n → ∀ (i : I) (e t : Expr), ckI M N sc i e = true → tgOk i t = true → PI X t e (tI P g n i)
  mAnd : ∀ (N : List Str) (X : Cx) (sc so : Scope), XOk P g M N X sc so n → ∀ (i : I) (es : List Expr) (pos : Pos), ckAnd M N sc i es = true → PE X (.BoolOp .And es pos) (tE P g n i)
  mOr : ∀ (N : List Str) (X : Cx) (sc so : Scope), XOk P g M N X sc so n → ∀ (i : I) (es : List Expr) (pos : Pos), ckOr M N sc i es = true → PE X (.BoolOp .Or es pos) (tE P g n i)
  mTAnd : ∀ (N : List Str) (X : Cx) (sc so : Scope), XOk P g M N X sc so n → ∀ (i : I) (es : List Expr) (pos : Pos), ckTAnd M N sc i es = true → PW X (.BoolOp .And es pos) (tT P g n i)
  mTOr : ∀ (N : List Str) (X : Cx) (sc so : Scope), XOk P g M N X sc so n → ∀ (i : I) (es : List Expr) (pos : Pos), ckTOr M N sc i es = true → PW X (.BoolOp .Or es pos) (tT P g n i)
  mO : ∀ (N : List Str) (X : Cx) (sc so : Scope), XOk P g M N X sc so n → ∀ (i : I) (o : Option Expr), ckO M N sc i o = true → PO X o (fun σ H Q => ∃ (ρ : List Addr) (h : Hh) (sg : Sg), Sim g ρ h H ∧ EnvR g ρ H sg σ ∧
    (match ev P n i sg h with | .ok d h' => ∃ p, part d = some p ∧ ∀ (ρ' : List Addr) (H' : Hp), Mono g ρ H ρ' H' → Sim g ρ' h' H' → Q p H' | _ => False))
  mL : ∀ (N : List Str) (X : Cx) (sc : Scope), XOk P g M N X sc sc n → ∀ (i : I) (e : Expr) (y : Str) (py pos : Pos) (j : Nat), ckE M N sc i e = true → lcB sc (.Name y py) e = some true → N[j]? = some y → PS X (.Assign [.Name y py] e pos) (tAsg (tE P g n i) (gName j))
  mS : ∀ (N : List Str) (X : Cx) (sc : Scope), XOk P g M N X sc sc n → PassesOwn (model X.prog X.w) X.A X.env X.xe → ∀ (i : I) (s : Stmt), ckS M N sc i s = true → PS X s (tS P g n i)
  mSs : ∀ (N : List Str) (X : Cx) (sc : Scope), XOk P g M N X sc sc n → PassesOwn (model X.prog X.w) X.A X.env X.xe → ∀ (i : I) (ss : List Stmt), ckSs M N sc i ss = true → PSs X ss (tS P g n i)
  mF : ∀ (N : List Str) (X : Cx) (sc so : Scope), XOk P g M N X sc so (n + 1) → FnsOk P g M X n
section
variable {P : Pg} {g : G} {M : Nm} {N : List Str} {X : Cx} {sc so : Scope} {n : Nat}
theorem bnd {a b : Bool} (h : (a && b) = true) : a = true ∧ b = true := Bool.and_eq_true_iff.mp h
theorem notb {a : Bool} (h : (!a) = true) : a = false := by cases a <;> first | rfl | cases h
theorem visB_ok {x : Str} (h : visB sc x = true) : Vis sc x ∧ (x == ("__debug__" : Str)) = false ∧ (x == ("__classdict__" : Str)) = false := by
  unfold visB at h
  obtain ⟨h, h3⟩ := bnd h
  obtain ⟨h, h2⟩ := bnd h
  refine ⟨?_, by simpa using h2, by simpa using h3⟩
  unfold Vis
  split at h
  · exact .inl (by assumption)
  · exact .inr (.inl (by assumption))
  · exact .inr (.inr (by assumption))
  · cases h
theorem glB_ok {x : Str} (k : XOk P g M N X sc so n) (h : glB sc x = true) : Gl X x ∧ (x == ("__debug__" : Str)) = false := by
  unfold glB at h
  obtain ⟨h, h2⟩ := bnd h
  refine ⟨?_, by simpa using h2⟩
  unfold Gl Env.kindOf
  rw [k.hsc]
  split at h
  · assumption
  · cases h
theorem bltB_ok {x y : Str} (k : XOk P g M N X sc so n) (h : bltB M sc x y = true) : x = y ∧ Gl X x ∧ X.mg x = none ∧ (x == ("__debug__" : Str)) = false := by
  unfold bltB at h
  obtain ⟨h, h3⟩ := bnd h
  obtain ⟨h1, h2⟩ := bnd h
  obtain ⟨a, b⟩ := glB_ok k h2
  exact ⟨of_decide_eq_true h1, a, k.mg.free x (of_decide_eq_true h3), b⟩
/-- a value at once -/
theorem Run.val {ρ : List Addr} {H : Hp} {h : Hh} {d : D} {v : V} {Q : VK} (hr : Run g ρ H (ke Q) (.ok d h)) (s : Sim g ρ h H) (r : Rep g ρ H d v) : Q v H := hr.mk s r
theorem s_var (k : XOk P g M N X sc so n) {i : Nat} {e : Expr} (c : ckE M N sc (.var i) e = true) : PE X e (tE P g (n + 1) (.var i)) := by
  unfold ckE at c
  split at c
  · rename_i x pos
    obtain ⟨c1, c2⟩ := bnd c
    obtain ⟨v1, v2, v3⟩ := visB_ok c2
    refine PE.imp (pe_var (i := i) (by rw [k.hN]; exact of_decide_eq_true c1) (by rw [k.hsc]; exact v1) v2 v3) fun σ H Q hr => ?_
    obtain ⟨ρ, h, sg, sim, er, hr⟩ := hr
    have hr : Run g ρ H (ke Q) (getV sg i h) := hr
    unfold getV at hr
    cases e1 : sg[i]? with
    | none => rw [e1] at hr; exact (show False from hr).elim
    | some d =>
      rw [e1] at hr
      dsimp only at hr
      cases e2 : isUna d with
      | true => rw [e2] at hr; exact (show False from hr).elim
      | false =>
        rw [e2] at hr
        obtain ⟨v, h1, h2⟩ := er.at_ i d e1 e2
        exact ⟨v, h1, hr.mk sim h2⟩
  · cases c
theorem tC_imp {d : D} {v : V} {i : I} (he : ∀ (sg : Sg) (h : Hh), ev P (n + 1) i sg h = .ok d h) (hd : ∀ (ρ : List Addr) (H : Hp), Rep g ρ H d v) : ∀ σ H Q, tE P g (n + 1) i σ H Q → tC v σ H Q := fun σ H Q hr => by
  obtain ⟨ρ, h, sg, sim, er, hr⟩ := hr
  rw [he] at hr
  exact hr.mk sim (hd ρ H)
theorem s_cst (k : XOk P g M N X sc so n) {d : D} {e : Expr} (c : ckE M N sc (.cst d) e = true) : PE X e (tE P g (n + 1) (.cst d)) := by
  unfold ckE at c
  split at c
  · rename_i cc kk pos
    split at c
    · split at c
      · exact PE.imp pe_non (tC_imp (fun _ _ => rfl) fun _ _ => .pure .non)
      · cases c
    · split at c
      · obtain rfl := of_decide_eq_true c
        exact PE.imp pe_bl (tC_imp (fun _ _ => rfl) fun _ _ => .pure (.bl _))
      · cases c
    · split at c
      · obtain rfl := of_decide_eq_true c
        exact PE.imp pe_int (tC_imp (fun _ _ => rfl) fun _ _ => .pure (.int _))
      · cases c
    · split at c
      · obtain rfl := of_decide_eq_true c
        exact PE.imp pe_str (tC_imp (fun _ _ => rfl) fun _ _ => .pure (.str _))
      · cases c
    · cases c
  · cases c
theorem s_glb (k : XOk P g M N X sc so n) {i : Nat} {e : Expr} (c : ckE M N sc (.glb i) e = true) : PE X e (tE P g (n + 1) (.glb i)) := by
  unfold ckE at c
  split at c
  · rename_i x pos
    obtain ⟨c1, c2⟩ := bnd c
    obtain ⟨g1, g2⟩ := glB_ok k c2
    have hx := of_decide_eq_true c1
    refine ⟨fun pins s σ H Q I hr => ?_⟩
    obtain ⟨ρ, h, sg, sim, er, hr⟩ := hr
    have hr : Run g ρ H (ke Q) (match P.cs[i]? with | some d => .ok d h | none => .no) := hr
    cases e1 : P.cs[i]? with
    | none => rw [e1] at hr; exact (show False from hr).elim
    | some d =>
      rw [e1] at hr
      obtain ⟨u, v, m1, m2, m3⟩ := k.mg.con i x d hx e1
      exact (pe_glob (pos := pos) g1 m1 m2 g2).run pins s σ H Q I (Run.mk hr sim (.pure (m3 H)))
  · cases c
theorem s_bin (ih : Main P g M n) (k : XOk P g M N X sc so (n + 1)) {o : BOp} {a b : I} {e : Expr} (c : ckE M N sc (.bin o a b) e = true) : PE X e (tE P g (n + 1) (.bin o a b)) := by
  unfold ckE at c
  split at c
  · rename_i x p y pos
    obtain ⟨c, c3⟩ := bnd c
    obtain ⟨c1, c2⟩ := bnd c
    obtain rfl := bopB_ok c1
    refine PE.imp (pe_op (op_bin k.hK o) (ih.mE N X sc so k.down a x c2) (ih.mE N X sc so k.down b y c3)) fun σ H Q hr => ?_
    obtain ⟨ρ, h, sg, sim, er, hr⟩ := hr
    refine ⟨ρ, h, sg, sim, er, Run.on (show Run g ρ H (ke Q) ((ev P n a sg h).on fun x h1 => (ev P n b sg h1).on fun y h2 => binop o x y h2) from hr) fun d h1 ρ1 H1 v m1 s1 r1 hr1 => ?_⟩
    refine ⟨ρ1, h1, sg, s1, er.mono m1, hr1.on fun d2 h2 ρ2 H2 v2 m2 s2 r2 hr2 => ?_⟩
    exact ⟨ρ2, h2, d, d2, s2, r1.mono m2, r2, hr2⟩
  · cases c
theorem behind_ok {op : CmpOp} {b : Expr} (h : isSet b = false) : behindInMarks op b = false := by
  cases b <;> first | rfl | cases h
theorem s_cmp (ih : Main P g M n) (k : XOk P g M N X sc so (n + 1)) {o : COp} {a b : I} {e : Expr} (c : ckE M N sc (.cmp o a b) e = true) : PE X e (tE P g (n + 1) (.cmp o a b)) := by
  unfold ckE at c
  split at c
  · rename_i x ps ys pos
    split at c
    · rename_i p y
      obtain ⟨c, c4⟩ := bnd c
      obtain ⟨c, c3⟩ := bnd c
      obtain ⟨c1, c2⟩ := bnd c
      obtain rfl := copB_ok c1
      refine PE.imp (pe_cmpR (op_cop k.hK k.room.units o) (ih.mE N X sc so k.down a x c2) (ih.mE N X sc so k.down b y c3) (behind_ok (notb c4))) fun σ H Q hr => ?_
      obtain ⟨ρ, h, sg, sim, er, hr⟩ := hr
      refine ⟨ρ, h, sg, sim, er, Run.on (show Run g ρ H (ke Q) ((ev P n a sg h).on fun x h1 => (ev P n b sg h1).on fun y h2 => cmpop o x y h2) from hr) fun d h1 ρ1 H1 v m1 s1 r1 hr1 => ?_⟩
      refine ⟨ρ1, h1, sg, s1, er.mono m1, hr1.on fun d2 h2 ρ2 H2 v2 m2 s2 r2 hr2 => ?_⟩
      exact ⟨ρ2, h2, d, d2, s2, r1.mono m2, r2, hr2⟩
    · cases c
  · cases c
theorem Run.onbT {ρ : List Addr} {H : Hp} {k : Kt} {r : R} {f : Bool → Hh → R} (hr : Run g ρ H k (r.onb f)) : ∃ d h' b, r = .ok d h' ∧ tru h' d = some b ∧ Run g ρ H k (f b h') := by
  cases r with
  | ok d h' =>
    have hr' : Run g ρ H k (match tru h' d with | some b => f b h' | none => .no) := hr
    cases e : tru h' d with
    | none => rw [e] at hr'; exact (show False from hr').elim
    | some b => rw [e] at hr'; exact ⟨d, h', b, rfl, e, hr'⟩
  | _ => exact (show False from hr).elim
/-- a comparison of ints gives a truth value -/
theorem cop_bl {o : COp} {ρ : List Addr} {H : Hp} {d e : D} {x y : V} {h : Hh} (co : copI o = true) (sim : Sim g ρ h H) (rd : Rep g ρ H d x) (re : Rep g ρ H e y) {d2 : D} {h2 : Hh} (er : cmpop o d e h = .ok d2 h2) : ∃ b, d2 = .bl b ∧ h2 = h := by
  cases o <;> first | (cases co; done) | (unfold cmpop intI at er; dsimp only at er; cases d <;> cases e <;> first | (cases er; exact ⟨_, rfl, rfl⟩) | cases er)
theorem lm_ok {op op' : CmpOp} {b c : Expr} (h : isSet c = false) : lastMarks [op, op'] [b, c] = false := behind_ok h
theorem chn_imp (ih : Main P g M n) {o p : COp} {a b c : I} (ho : copI o = true) : ∀ σ H Q, tE P g (n + 1) (.chn o p a b c) σ H Q → tChain (rCop g o) (rCop g p) (tE P g n a) (tE P g n b) (tE P g n c) σ H Q := fun σ H Q hr => by
  obtain ⟨ρ, h, sg, sim, er, hr⟩ := hr
  refine ⟨ρ, h, sg, sim, er, Run.on (show Run g ρ H (ke Q) ((ev P n a sg h).on fun x h1 => (ev P n b sg h1).on fun y h2 => (cmpop o x y h2).onb fun k h3 => match k with
      | true => (ev P n c sg h3).on fun z h4 => cmpop p y z h4
      | false => .ok (.bl false) h3) from hr) fun d h1 ρ1 H1 v m1 s1 r1 hr1 => ?_⟩
  refine ⟨ρ1, h1, sg, s1, er.mono m1, hr1.on fun d2 h2 ρ2 H2 v2 m2 s2 r2 hr2 => ?_⟩
  obtain ⟨d3, h3, b3, e3, t3, hr3⟩ := hr2.onbT
  obtain ⟨b4, rfl, rfl⟩ := cop_bl ho s2 (r1.mono m2) r2 e3
  have : b3 = b4 := by
    have : some b4 = some b3 := t3
    exact (Option.some.inj this).symm
  subst this
  refine ⟨ρ2, h3, d, d2, s2, r1.mono m2, r2, ?_⟩
  rw [e3]
  intro ρ' H' v' m' s' r'
  obtain rfl := r'.bl
  refine ⟨b3, rfl, ?_⟩
  cases b3 with
  | true =>
    rw [if_pos rfl]
    have hr4 : Run g ρ2 H2 (ke Q) ((ev P n c sg h3).on fun z h4 => cmpop p d2 z h4) := hr3
    refine ⟨ρ', h3, sg, s', (er.mono m1).mono (m2.trans m'), (Run.base m' hr4).on fun d5 h5 ρ5 H5 v5 m5 s5 r5 hr5 => ?_⟩
    exact ⟨ρ5, h5, d2, d5, s5, (r2.mono m').mono m5, r5, hr5⟩
  | false =>
    rw [if_neg Bool.false_ne_true]
    have hr4 : Run g ρ2 H2 (ke Q) (.ok (.bl false) h3) := hr3
    exact (Run.base m' hr4).mk s' (.pure (.bl _))
theorem s_chn (ih : Main P g M n) (k : XOk P g M N X sc so (n + 1)) {o p : COp} {a b c : I} {e : Expr} (ck : ckE M N sc (.chn o p a b c) e = true) : PE X e (tE P g (n + 1) (.chn o p a b c)) := by
  unfold ckE at ck
  split at ck
  · rename_i x qs ys pos
    split at ck
    · rename_i q r y z
      obtain ⟨ck, c8⟩ := bnd ck
      obtain ⟨ck, c7⟩ := bnd ck
      obtain ⟨ck, c6⟩ := bnd ck
      obtain ⟨ck, c5⟩ := bnd ck
      obtain ⟨ck, c4⟩ := bnd ck
      obtain ⟨ck, c3⟩ := bnd ck
      obtain ⟨c1, c2⟩ := bnd ck
      obtain rfl := copB_ok c1
      obtain rfl := copB_ok c2
      exact PE.imp (pe_chain (op_cop k.hK k.room.units o) (op_cop k.hK k.room.units p) (ih.mE N X sc so k.down a x c5) (ih.mE N X sc so k.down b y c6) (ih.mE N X sc so k.down c z c7) (lm_ok (notb c8))) (chn_imp ih c3)
    · cases ck
  · cases ck
theorem s_neg (ih : Main P g M n) (k : XOk P g M N X sc so (n + 1)) {a : I} {e : Expr} (c : ckE M N sc (.neg a) e = true) : PE X e (tE P g (n + 1) (.neg a)) := by
  unfold ckE at c
  split at c
  · rename_i p x pos
    obtain ⟨c1, c2⟩ := bnd c
    cases p <;> first | (cases c1; done) | skip
    refine PE.imp (pe_un un_neg (ih.mE N X sc so k.down a x c2)) fun σ H Q hr => ?_
    obtain ⟨ρ, h, sg, sim, er, hr⟩ := hr
    refine ⟨ρ, h, sg, sim, er, Run.on (show Run g ρ H (ke Q) ((ev P n a sg h).on fun x h1 => match x with
      | .int i => .ok (.int (-i)) h1
      | _ => .no) from hr) fun d h1 ρ1 H1 v m1 s1 r1 hr1 => ?_⟩
    cases d with
    | int i =>
      obtain rfl := r1.int
      exact ⟨i, rfl, Run.mk hr1 s1 (.pure (.int _))⟩
    | _ => exact (show False from hr1).elim
  · cases c
theorem s_tup (ih : Main P g M n) (k : XOk P g M N X sc so (n + 1)) {a : I} {e : Expr} (c : ckE M N sc (.tup a) e = true) : PE X e (tE P g (n + 1) (.tup a)) := by
  unfold ckE at c
  split at c
  · rename_i es kk pos
    refine PE.imp (pe_tupN (ih.mA N X sc so k.down a es c)) fun σ H Q hr => ?_
    obtain ⟨ρ, h, sg, sim, er, hr⟩ := hr
    refine ⟨ρ, h, sg, sim, er, Run.ons (show Run g ρ H (ke Q) ((ev P n a sg h).ons fun ds h1 => match Nat.ble ds.length line with
      | true => .ok (mkT ds) h1
      | false => .no) from hr) fun ds h1 ρ1 H1 vs m1 s1 r1 hr1 => ?_⟩
    cases z : Nat.ble ds.length line with
    | false => rw [z] at hr1; exact (show False from hr1).elim
    | true =>
      rw [z] at hr1
      exact ⟨by rw [← r1.length]; exact line_le z, Run.newT hr1 s1 r1⟩
  · cases c
theorem s_lst (ih : Main P g M n) (k : XOk P g M N X sc so (n + 1)) {a : I} {e : Expr} (c : ckE M N sc (.lst a) e = true) : PE X e (tE P g (n + 1) (.lst a)) := by
  unfold ckE at c
  split at c
  · rename_i es pos
    refine PE.imp (pe_lst (ih.mA N X sc so k.down a es c)) fun σ H Q hr => ?_
    obtain ⟨ρ, h, sg, sim, er, hr⟩ := hr
    refine ⟨ρ, h, sg, sim, er, Run.ons (show Run g ρ H (ke Q) ((ev P n a sg h).ons fun ds h1 => match Nat.ble ds.length line with
      | true => newL h1 ds
      | false => .no) from hr) fun ds h1 ρ1 H1 vs m1 s1 r1 hr1 => ?_⟩
    cases z : Nat.ble ds.length line with
    | false => rw [z] at hr1; exact (show False from hr1).elim
    | true =>
      rw [z] at hr1
      exact ⟨by rw [← r1.length]; exact line_le z, fun p np => Run.newL hr1 s1 r1 np⟩
  · cases c
theorem plainIx {s : Expr} (h : isSlice s = false) : PlainIx s := fun o i => by
  cases s <;> first | rfl | cases h
theorem s_ix (ih : Main P g M n) (k : XOk P g M N X sc so (n + 1)) {a i : I} {e : Expr} (c : ckE M N sc (.ix a i) e = true) : PE X e (tE P g (n + 1) (.ix a i)) := by
  unfold ckE at c
  split at c
  · rename_i o s pos
    obtain ⟨c, c3⟩ := bnd c
    obtain ⟨c1, c2⟩ := bnd c
    refine PE.imp (pe_ix (ix_idx k.hK) (ih.mE N X sc so k.down a o c1) (ih.mE N X sc so k.down i s c2) (plainIx (notb c3))) fun σ H Q hr => ?_
    obtain ⟨ρ, h, sg, sim, er, hr⟩ := hr
    refine ⟨ρ, h, sg, sim, er, Run.on (show Run g ρ H (ke Q) ((ev P n a sg h).on fun x h1 => (ev P n i sg h1).on fun y h2 => index x y h2) from hr) fun d h1 ρ1 H1 v m1 s1 r1 hr1 => ?_⟩
    refine ⟨ρ1, h1, sg, s1, er.mono m1, hr1.on fun d2 h2 ρ2 H2 v2 m2 s2 r2 hr2 => ?_⟩
    exact ⟨ρ2, h2, d, d2, s2, r1.mono m2, r2, hr2⟩
  · cases c
theorem s_gdx (ih : Main P g M n) (k : XOk P g M N X sc so (n + 1)) {j : Nat} {i : I} {e : Expr} (c : ckE M N sc (.gdx j i) e = true) : PE X e (tE P g (n + 1) (.gdx j i)) := by
  unfold ckE at c
  split at c
  · rename_i o s pos
    obtain ⟨c, c3⟩ := bnd c
    obtain ⟨c1, c2⟩ := bnd c
    split at c1
    · rename_i x p c0
      obtain ⟨d1, d2⟩ := bnd c1
      have hx := of_decide_eq_true d1
      obtain ⟨g1, g2⟩ := glB_ok k d2
      refine ⟨fun pins s' σ H Q I hr => ?_⟩
      obtain ⟨ρ, h, sg, sim, er, hr⟩ := hr
      have hr : Run g ρ H (ke Q) ((ev P n i sg h).on fun x h1 => match x with
        | .int i => match P.ds[j]? with
          | some ks => match lookI i ks with
            | some d => .ok d h1
            | none => .no
          | none => .no
        | _ => .no) := hr
      cases e1 : P.ds[j]? with
      | none =>
        rw [e1] at hr
        exfalso
        cases q : ev P n i sg h with
        | ok d h1 =>
          rw [q] at hr
          cases d <;> exact (show False from hr)
        | _ => rw [q] at hr; exact (show False from hr)
      | some ks =>
        rw [e1] at hr
        obtain ⟨a, m1, m2⟩ := k.mg.dic j x ks hx e1
        refine (pe_ix (ix_kint (X := X)) (pe_glob (v := .ref a) (pos := p) g1 m1 rfl g2) (ih.mE N X sc so k.down i s c2) (plainIx (notb c3))).run pins s' σ H Q I ?_
        refine ⟨ρ, h, sg, sim, er, Run.on hr fun d h1 ρ1 H1 v mm s1 r1 hr1 => ?_⟩
        cases d with
        | int z =>
          dsimp only at hr1
          cases e2 : lookI z ks with
          | none => rw [e2] at hr1; exact (show False from hr1).elim
          | some dd =>
            rw [e2] at hr1
            obtain rfl := r1.int
            obtain ⟨w, ki, rp⟩ := m2 z dd e2
            rw [← k.hK] at ki
            exact ⟨a, z, w, rfl, rfl, ki, Run.mk hr1 s1 (.pure (rp H1))⟩
        | _ => exact (show False from hr1).elim
    · cases c1
  · cases c
end
end Ev
-- EvJ
/-! expressions, further -/
namespace Ev
open PySem PySem.Spec PyProof.Rows L2
section
variable {P : Pg} {g : G} {M : Nm} {N : List Str} {X : Cx} {sc so : Scope} {n : Nat}
theorem and_imp {a b : I} {t : TE} (hb : ∀ σ H Q, tE P g n b σ H Q → t σ H Q) : ∀ σ H Q, tE P g (n + 1) (.and a b) σ H Q → tAndV (tE P g n a) t σ H Q := fun σ H Q hr => by
  obtain ⟨ρ, h, sg, sim, er, hr⟩ := hr
  refine ⟨ρ, h, sg, sim, er, Run.on (show Run g ρ H (ke Q) ((ev P n a sg h).on fun x h1 => match x with
      | .bl true => ev P n b sg h1
      | .bl false => .ok (.bl false) h1
      | _ => .no) from hr) fun d h1 ρ1 H1 v m1 s1 r1 hr1 => ?_⟩
  cases d with
  | bl c =>
    obtain rfl := r1.bl
    refine ⟨c, rfl, ?_⟩
    cases c with
    | true => rw [if_pos rfl]; exact hb _ _ _ ⟨ρ1, h1, sg, s1, er.mono m1, hr1⟩
    | false => rw [if_neg Bool.false_ne_true]; exact Run.mk hr1 s1 (.pure (.bl _))
  | _ => exact (show False from hr1).elim
theorem or_imp {a b : I} {t : TE} (hb : ∀ σ H Q, tE P g n b σ H Q → t σ H Q) : ∀ σ H Q, tE P g (n + 1) (.or a b) σ H Q → tOrV (tE P g n a) t σ H Q := fun σ H Q hr => by
  obtain ⟨ρ, h, sg, sim, er, hr⟩ := hr
  refine ⟨ρ, h, sg, sim, er, Run.on (show Run g ρ H (ke Q) ((ev P n a sg h).on fun x h1 => match x with
      | .bl false => ev P n b sg h1
      | .bl true => .ok (.bl true) h1
      | _ => .no) from hr) fun d h1 ρ1 H1 v m1 s1 r1 hr1 => ?_⟩
  cases d with
  | bl c =>
    obtain rfl := r1.bl
    refine ⟨c, rfl, ?_⟩
    cases c with
    | false => rw [if_neg Bool.false_ne_true]; exact hb _ _ _ ⟨ρ1, h1, sg, s1, er.mono m1, hr1⟩
    | true => rw [if_pos rfl]; exact Run.mk hr1 s1 (.pure (.bl _))
  | _ => exact (show False from hr1).elim
theorem s_and (ih : Main P g M n) (k : XOk P g M N X sc so (n + 1)) {a b : I} {e : Expr} (c : ckE M N sc (.and a b) e = true) : PE X e (tE P g (n + 1) (.and a b)) := by
  unfold ckE at c
  split at c
  · split at c
    · obtain ⟨c1, c2⟩ := bnd c
      exact PE.imp (pe_and (ih.mE N X sc so k.down a _ c1) (ih.mAnd N X sc so k.down b _ _ c2)) (and_imp fun _ _ _ q => q)
    · cases c
  · cases c
theorem s_or (ih : Main P g M n) (k : XOk P g M N X sc so (n + 1)) {a b : I} {e : Expr} (c : ckE M N sc (.or a b) e = true) : PE X e (tE P g (n + 1) (.or a b)) := by
  unfold ckE at c
  split at c
  · split at c
    · obtain ⟨c1, c2⟩ := bnd c
      exact PE.imp (pe_or (ih.mE N X sc so k.down a _ c1) (ih.mOr N X sc so k.down b _ _ c2)) (or_imp fun _ _ _ q => q)
    · cases c
  · cases c
theorem one_imp {a : I} : ∀ σ H Q, tE P g (n + 1) (.one a) σ H Q → tE P g n a σ H Q := fun _ _ _ hr => hr
theorem m_And (ih : Main P g M n) (k : XOk P g M N X sc so (n + 1)) (i : I) (es : List Expr) (pos : Pos) (c : ckAnd M N sc i es = true) : PE X (.BoolOp .And es pos) (tE P g (n + 1) i) := by
  unfold ckAnd at c
  split at c
  · split at c
    · obtain ⟨c1, c2⟩ := bnd c
      exact PE.imp (pe_and (ih.mE N X sc so k.down _ _ c1) (ih.mAnd N X sc so k.down _ _ _ c2)) (and_imp fun _ _ _ q => q)
    · cases c
  · split at c
    · exact PE.imp (pe_one (ih.mE N X sc so k.down _ _ c)) one_imp
    · cases c
  · cases c
theorem m_Or (ih : Main P g M n) (k : XOk P g M N X sc so (n + 1)) (i : I) (es : List Expr) (pos : Pos) (c : ckOr M N sc i es = true) : PE X (.BoolOp .Or es pos) (tE P g (n + 1) i) := by
  unfold ckOr at c
  split at c
  · split at c
    · obtain ⟨c1, c2⟩ := bnd c
      exact PE.imp (pe_or (ih.mE N X sc so k.down _ _ c1) (ih.mOr N X sc so k.down _ _ _ c2)) (or_imp fun _ _ _ q => q)
    · cases c
  · split at c
    · exact PE.imp (pe_one (ih.mE N X sc so k.down _ _ c)) one_imp
    · cases c
  · cases c
theorem s_not (ih : Main P g M n) (k : XOk P g M N X sc so (n + 1)) {a : I} {e : Expr} (c : ckE M N sc (.not a) e = true) : PE X e (tE P g (n + 1) (.not a)) := by
  unfold ckE at c
  split at c
  · rename_i p x pos
    obtain ⟨c1, c2⟩ := bnd c
    cases p <;> first | (cases c1; done) | skip
    refine PE.imp (pe_notT (ih.mE N X sc so k.down a x c2)) fun σ H Q hr => ?_
    obtain ⟨ρ, h, sg, sim, er, hr⟩ := hr
    obtain ⟨d, h', b, e1, e2, hr1⟩ := Run.onbT (show Run g ρ H (ke Q) ((ev P n a sg h).onb fun b h1 => .ok (.bl !b) h1) from hr)
    refine ⟨ρ, h, sg, sim, er, ?_⟩
    rw [e1]
    intro ρ' H' v m s r
    refine ⟨b, ?_, ?_⟩
    · rw [k.hK]; exact tru_ok' s r e2
    · exact (Run.base m hr1).mk s (.pure (.bl _))
  · cases c
theorem s_ife (ih : Main P g M n) (k : XOk P g M N X sc so (n + 1)) {t a b : I} {e : Expr} (c : ckE M N sc (.ife t a b) e = true) : PE X e (tE P g (n + 1) (.ife t a b)) := by
  unfold ckE at c
  split at c
  · rename_i q x y pos
    obtain ⟨c, c3⟩ := bnd c
    obtain ⟨c1, c2⟩ := bnd c
    refine PE.imp (pe_ifExp (ih.mT N X sc so k.down t q c1) (ih.mE N X sc so k.down a x c2) (ih.mE N X sc so k.down b y c3)) fun σ H Q hr => ?_
    obtain ⟨ρ, h, sg, sim, er, hr⟩ := hr
    refine ⟨ρ, h, sg, sim, er, Run.onb (show Run g ρ H (ke Q) ((ev P n t sg h).onb fun k h1 => match k with
      | true => ev P n a sg h1
      | false => ev P n b sg h1) from hr) fun c h1 ρ1 H1 m1 s1 hr1 => ?_⟩
    cases c with
    | true => rw [if_pos rfl]; exact ⟨ρ1, h1, sg, s1, er.mono m1, hr1⟩
    | false => rw [if_neg Bool.false_ne_true]; exact ⟨ρ1, h1, sg, s1, er.mono m1, hr1⟩
  · cases c
def rSl (g : G) : V → Option Int → Option Int → Hp → VK → Prop := fun x lo hi H Q => ∃ l u, rSlice g l u x lo hi H Q
theorem sl_slA (hK : X.K = g.K) : SlR X (rSl g) := by
  intro pins s σ H x v vl vu lo hi sl Q I rx hs pl pu hr
  obtain ⟨l, u, hr⟩ := hr
  exact sl_sl hK l u pins s σ H x v vl vu lo hi sl Q I rx hs pl pu hr
theorem slice_l {d l u : D} {h : Hh} (e : part l = none) : slice d l u h = .no := by
  unfold slice
  rw [e]
theorem slice_u {d l u : D} {h : Hh} (e : part u = none) : slice d l u h = .no := by
  unfold slice
  rw [e]
  cases part l <;> rfl
theorem s_sl (ih : Main P g M n) (k : XOk P g M N X sc so (n + 1)) {a lo hi : I} {e : Expr} (c : ckE M N sc (.sl a lo hi) e = true) : PE X e (tE P g (n + 1) (.sl a lo hi)) := by
  unfold ckE at c
  split at c
  · rename_i o s pos
    split at c
    · rename_i l u st p2
      obtain ⟨c, c4⟩ := bnd c
      obtain ⟨c, c3⟩ := bnd c
      obtain ⟨c1, c2⟩ := bnd c
      cases st with
      | some z => cases c4
      | none =>
        refine PE.imp (pe_slice (sl_slA k.hK) (ih.mE N X sc so k.down a o c1) (ih.mO N X sc so k.down lo l c2) (ih.mO N X sc so k.down hi u c3)) fun σ H Q hr => ?_
        obtain ⟨ρ, h, sg, sim, er, hr⟩ := hr
        refine ⟨ρ, h, sg, sim, er, Run.on (show Run g ρ H (ke Q) ((ev P n a sg h).on fun x h1 => (ev P n lo sg h1).on fun l h2 => (ev P n hi sg h2).on fun u h3 => slice x l u h3) from hr) fun d h1 ρ1 H1 v m1 s1 r1 hr1 => ?_⟩
        refine ⟨ρ1, h1, sg, s1, er.mono m1, ?_⟩
        cases e1 : ev P n lo sg h1 with
        | ok dl h2 =>
          rw [e1] at hr1
          have hr1 : Run g ρ1 H1 (ke Q) ((ev P n hi sg h2).on fun u h3 => slice d dl u h3) := hr1
          cases e2 : ev P n hi sg h2 with
          | ok du h3 =>
            rw [e2] at hr1
            have hr1 : Run g ρ1 H1 (ke Q) (slice d dl du h3) := hr1
            cases p1 : part dl with
            | none => rw [slice_l p1] at hr1; exact (show False from hr1).elim
            | some pl =>
              cases p3 : part du with
              | none => rw [slice_u p3] at hr1; exact (show False from hr1).elim
              | some pu =>
                refine ⟨pl, p1, fun ρ2 H2 m2 s2 => ?_⟩
                refine ⟨ρ2, h2, sg, s2, (er.mono m1).mono m2, ?_⟩
                rw [e2]
                refine ⟨pu, p3, fun ρ3 H3 m3 s3 => ?_⟩
                exact ⟨dl, du, ρ3, h3, d, s3, (r1.mono m2).mono m3, p1, p3, Run.base (m2.trans m3) hr1⟩
          | _ => rw [e2] at hr1; exact (show False from hr1).elim
        | _ => rw [e1] at hr1; exact (show False from hr1).elim
    · cases c
  · cases c
theorem m_O (ih : Main P g M n) (k : XOk P g M N X sc so (n + 1)) (i : I) (o : Option Expr) (c : ckO M N sc i o = true) : PO X o (fun σ H Q => ∃ (ρ : List Addr) (h : Hh) (sg : Sg), Sim g ρ h H ∧ EnvR g ρ H sg σ ∧
    (match ev P (n + 1) i sg h with | .ok d h' => ∃ p, part d = some p ∧ ∀ (ρ' : List Addr) (H' : Hp), Mono g ρ H ρ' H' → Sim g ρ' h' H' → Q p H' | _ => False)) := by
  unfold ckO at c
  split at c
  · cases o with
    | some _ => cases c
    | none =>
      refine ⟨fun pins s σ H Q I hr => po_none.run pins s σ H Q I ?_⟩
      obtain ⟨ρ, h, sg, sim, er, p, e, q⟩ := hr
      cases e
      exact q ρ H (Mono.refl _ _ _) sim
  · split at c
    · rename_i a0 o e
      refine ⟨fun pins s σ H Q I hr => (po_some (ih.mE N X sc so k.down _ _ c)).run pins s σ H Q I ?_⟩
      obtain ⟨ρ, h, sg, sim, er, hr⟩ := hr
      refine ⟨ρ, h, sg, sim, er, ?_⟩
      have hr : (match (ev P n a0 sg h).on fun d h1 => match d with
          | .int i => .ok (.int i) h1
          | _ => .no with | .ok d h' => ∃ p, part d = some p ∧ ∀ (ρ' : List Addr) (H' : Hp), Mono g ρ H ρ' H' → Sim g ρ' h' H' → Q p H' | _ => False) := hr
      cases e1 : ev P n a0 sg h with
      | ok d h1 =>
        rw [e1] at hr
        intro ρ' H' v m s' r
        cases d with
        | int z =>
          obtain ⟨p, e2, q⟩ := hr
          cases e2
          obtain rfl := r.int
          exact ⟨z, rfl, q ρ' H' m s'⟩
        | _ => exact (show False from hr).elim
      | _ => rw [e1] at hr; exact (show False from hr).elim
    · cases c
  · cases c
end
end Ev
-- EvL
/-! argument lists, tests, iterables, calls, built-ins, methods -/
namespace Ev
open PySem PySem.Spec PyProof.Rows L2
section
variable {X : Cx}
def tStar (K : PySem.W.Frag) (te : TE) (t : TA) : TA := fun σ H Q => te σ H fun x H1 => ∃ (a : Addr) (xs : List V), x = .ref a ∧ (SqT K H1 a xs ∨ SqL K H1 a xs) ∧ t σ H1 fun ys H2 => Q (xs ++ ys) H2
theorem pa_star {e : Expr} {p : Pos} {es : List Expr} {te : TE} {t : TA} (he : PE X e te) (hr : PA X es t) : PA X (.Starred e p :: es) (tStar X.K te t) := by
  refine ⟨fun pos pins s σ H Q I h => ?_⟩
  refine PySem.W.items_star (thn (he.run pins s σ H _ I h) fun v s1 ⟨x, H1, I1, r1, a, xs, ex, q, hh⟩ => ?_)
  subst ex
  cases r1
  refine StX.star_any I1 q fun us s2 I2 r2 => ?_
  exact thn (hr.run pos pins s2 σ H1 _ I2 hh) fun ws s3 ⟨ys, H2, I3, r3, q3⟩ => ⟨xs ++ ys, H2, I3, r2.append r3, q3⟩
theorem noStars {es : List Expr} {env : Env} {pos : Pos} (h : (es.all fun e => !isStar e) = true) : (backTo pos (starEach es env)).any (·.1) = false := by
  induction es with
  | nil => rfl
  | cons e es ih =>
    rw [List.all_cons] at h
    obtain ⟨h1, h2⟩ := Bool.and_eq_true_iff.mp h
    rw [notStar (by simpa using h1)]
    show (false || (backTo pos (starEach es env)).any (·.1)) = false
    rw [ih h2]
    rfl
end
section
variable {P : Pg} {g : G} {M : Nm} {N : List Str} {X : Cx} {sc so : Scope} {n : Nat}
theorem m_A (ih : Main P g M n) (k : XOk P g M N X sc so (n + 1)) (i : I) (es : List Expr) (c : ckA M N sc i es = true) : PA X es (tA P g (n + 1) i) := by
  unfold ckA at c
  split at c
  · cases es with
    | cons _ _ => cases c
    | nil =>
      refine PA.imp pa_nil fun σ H Q hr => ?_
      obtain ⟨ρ, h, sg, sim, er, hr⟩ := hr
      exact (show Run g ρ H (ka Q) (.oks [] h) from hr) ρ H [] (Mono.refl _ _ _) sim .nil
  · split at c
    · rename_i a r _ e es
      obtain ⟨c, c3⟩ := bnd c
      obtain ⟨c1, c2⟩ := bnd c
      refine PA.imp (pa_cons (ih.mE N X sc so k.down _ e c1) (ih.mA N X sc so k.down _ es c2) (notStar (notb c3))) fun σ H Q hr => ?_
      obtain ⟨ρ, h, sg, sim, er, hr⟩ := hr
      refine ⟨ρ, h, sg, sim, er, Run.on (show Run g ρ H (ka Q) ((ev P n _ sg h).on fun d h1 => (ev P n _ sg h1).ons fun ds h2 => .oks (d :: ds) h2) from hr) fun d h1 ρ1 H1 v m1 s1 r1 hr1 => ?_⟩
      refine ⟨ρ1, h1, sg, s1, er.mono m1, hr1.ons fun ds h2 ρ2 H2 vs m2 s2 r2 hr2 => ?_⟩
      exact hr2 ρ2 H2 (v :: vs) (Mono.refl _ _ _) s2 (.cons (r1.mono m2) r2)
    · cases c
  · split at c
    · rename_i a r _ e es
      obtain ⟨c1, c2⟩ := bnd c
      split at c1
      · refine PA.imp (pa_star (ih.mE N X sc so k.down _ _ c1) (ih.mA N X sc so k.down _ es c2)) fun σ H Q hr => ?_
        obtain ⟨ρ, h, sg, sim, er, hr⟩ := hr
        refine ⟨ρ, h, sg, sim, er, Run.on (show Run g ρ H (ka Q) ((ev P n _ sg h).on fun d h1 => match itemsOf h1 d with
          | some es => (ev P n _ sg h1).ons fun ds h2 => .oks (es ++ ds) h2
          | none => .no) from hr) fun d h1 ρ1 H1 v m1 s1 r1 hr1 => ?_⟩
        cases e1 : itemsOf h1 d with
        | none => rw [e1] at hr1; exact (show False from hr1).elim
        | some fs =>
          rw [e1] at hr1
          obtain ⟨a, vs, rfl, q, rr⟩ := items_seq s1 r1 e1
          rw [← k.hK] at q
          refine ⟨a, vs, rfl, q.symm, ρ1, h1, sg, s1, er.mono m1, Run.ons (show Run g ρ1 H1 (ka Q) ((ev P n _ sg h1).ons fun ds h2 => .oks (fs ++ ds) h2) from hr1) fun ds h2 ρ2 H2 ws m2 s2 r2 hr2 => ?_⟩
          exact hr2 ρ2 H2 (vs ++ ws) (Mono.refl _ _ _) s2 ((rr.mono m2).append r2)
      · cases c1
    · cases c
  · cases c
/-! tests -/
theorem RunT.ofE {ρ : List Addr} {H : Hp} {Q : Bool → Hp → Prop} {r : R} (hr : RunT g ρ H Q r) : Run g ρ H (ke fun x H1 => ∃ b, TruV g.K x H1 b ∧ Q b H1) r := by
  cases r with
  | ok d h' =>
    obtain ⟨b, e, q⟩ := hr
    exact fun ρ' H' v m s rr => ⟨b, tru_ok' s rr e, q ρ' H' m s ⟨v, rr⟩⟩
  | _ => exact (show False from hr).elim
/-- a truth value that is told as a test -/
theorem tTest_imp {i : I} {t : TE} (hb : ∀ σ H Q, tE P g n i σ H Q → t σ H Q) (bl : ∀ (sg : Sg) (h : Hh) (d : D) (h' : Hh), ev P n i sg h = .ok d h' → ∃ b, d = .bl b) : ∀ σ H Q, tT P g n i σ H Q → tTest t σ H Q := fun σ H Q hr => by
  obtain ⟨ρ, h, sg, sim, er, hr⟩ := hr
  refine hb _ _ _ ⟨ρ, h, sg, sim, er, ?_⟩
  cases e : ev P n i sg h with
  | ok d h' =>
    rw [e] at hr
    obtain ⟨b, eb⟩ := bl sg h d h' e
    subst eb
    obtain ⟨c, ec, q⟩ := hr
    cases ec
    exact fun ρ' H' v m s rr => ⟨b, rr.bl, q ρ' H' m s ⟨v, rr⟩⟩
  | _ => rw [e] at hr; exact (show False from hr).elim
theorem oB_bl {o : Option Bool} {f : Bool → Bool} {h : Hh} {d : D} {h' : Hh} (e : oB o f h = .ok d h') : ∃ b, d = .bl b := by
  cases o with
  | none => cases e
  | some b => cases e; exact ⟨_, rfl⟩
theorem intI_bl {x y : D} {f : Int → Int → Bool} {h : Hh} {d : D} {h' : Hh} (e : intI x y f h = .ok d h') : ∃ b, d = .bl b := by
  unfold intI at e
  cases x <;> cases y <;> first | (cases e; exact ⟨_, rfl⟩) | cases e
theorem cmpop_bl {o : COp} {x y : D} {h : Hh} {d : D} {h' : Hh} (e : cmpop o x y h = .ok d h') : ∃ b, d = .bl b := by
  cases o with
  | eq => exact oB_bl e
  | ne => exact oB_bl e
  | lt => exact intI_bl e
  | le => exact intI_bl e
  | gt => exact intI_bl e
  | ge => exact intI_bl e
  | inn => exact oB_bl e
  | nin => exact oB_bl e
  | isN => unfold cmpop at e; cases y <;> first | exact oB_bl e | cases e
  | notN => unfold cmpop at e; cases y <;> first | exact oB_bl e | cases e
theorem on_ok {r : R} {f : D → Hh → R} {d : D} {h : Hh} (e : r.on f = .ok d h) : ∃ d1 h1, r = .ok d1 h1 ∧ f d1 h1 = .ok d h := by
  cases r with
  | ok d1 h1 => exact ⟨d1, h1, rfl, e⟩
  | _ => cases e
theorem cmp_bl {o : COp} {a b : I} (sg : Sg) (h : Hh) (d : D) (h' : Hh) (e : ev P (n + 1) (.cmp o a b) sg h = .ok d h') : ∃ b, d = .bl b := by
  obtain ⟨d1, h1, _, e⟩ := on_ok (show ((ev P n a sg h).on fun x h1 => (ev P n b sg h1).on fun y h2 => cmpop o x y h2) = .ok d h' from e)
  obtain ⟨d2, h2, _, e⟩ := on_ok e
  exact cmpop_bl e
theorem onb_ok {r : R} {f : Bool → Hh → R} {d : D} {h : Hh} (e : r.onb f = .ok d h) : ∃ b h1, f b h1 = .ok d h := by
  cases r with
  | ok d1 h1 =>
    have e' : (match tru h1 d1 with | some b => f b h1 | none => .no) = .ok d h := e
    cases c : tru h1 d1 with
    | none => rw [c] at e'; cases e'
    | some b => rw [c] at e'; exact ⟨b, h1, e'⟩
  | _ => cases e
theorem chn_bl {o p : COp} {a b c : I} (sg : Sg) (h : Hh) (d : D) (h' : Hh) (e : ev P (n + 1) (.chn o p a b c) sg h = .ok d h') : ∃ b, d = .bl b := by
  obtain ⟨d1, h1, _, e⟩ := on_ok (show ((ev P n a sg h).on fun x h1 => (ev P n b sg h1).on fun y h2 => (cmpop o x y h2).onb fun k h3 => match k with
      | true => (ev P n c sg h3).on fun z h4 => cmpop p y z h4
      | false => .ok (.bl false) h3) = .ok d h' from e)
  obtain ⟨d2, h2, _, e⟩ := on_ok e
  obtain ⟨k, h3, e⟩ := onb_ok e
  cases k with
  | true =>
    obtain ⟨d4, h4, _, e⟩ := on_ok (show ((ev P n c sg h3).on fun z h4 => cmpop p d2 z h4) = .ok d h' from e)
    exact cmpop_bl e
  | false => cases e; exact ⟨_, rfl⟩
theorem plainT_ok {e : Expr} {env : Env} (h : plainT e = true) : ∀ whole, isTrue e env whole = (do let v ← whole; standAt e.pos; holding [v] (truthy v)) := fun whole => by
  cases e with
  | UnaryOp op a pos => cases op <;> first | rfl | cases h
  | _ => first | rfl | cases h
theorem RunT.and_inv {ρ : List Addr} {H : Hp} {Q : Bool → Hp → Prop} {a b : I} {sg : Sg} {h : Hh} (sim : Sim g ρ h H)
    (hr : RunT g ρ H Q (ev P (n + 1) (.and a b) sg h)) : RunT g ρ H (fun c H1 => if c = true then (∀ σ, EnvR g ρ H sg σ → tT P g n b σ H1 Q) else Q false H1) (ev P n a sg h) := by
  have hr : RunT g ρ H Q ((ev P n a sg h).on fun x h1 => match x with
      | .bl true => ev P n b sg h1
      | .bl false => .ok (.bl false) h1
      | _ => .no) := hr
  cases e : ev P n a sg h with
  | ok d h1 =>
    rw [e] at hr
    cases d with
    | bl c =>
      refine ⟨c, rfl, fun ρ' H' m s rr => ?_⟩
      cases c with
      | true =>
        rw [if_pos rfl]
        refine fun σ er => ⟨ρ', h1, sg, s, er.mono m, ?_⟩
        have hr : RunT g ρ H Q (ev P n b sg h1) := hr
        cases e2 : ev P n b sg h1 with
        | ok d2 h2 =>
          rw [e2] at hr
          obtain ⟨c2, ec2, q⟩ := hr
          exact ⟨c2, ec2, fun ρ2 H2 m2 s2 rr2 => q ρ2 H2 (m.trans m2) s2 rr2⟩
        | _ => rw [e2] at hr; exact (show False from hr).elim
      | false =>
        rw [if_neg Bool.false_ne_true]
        obtain ⟨c2, ec2, q⟩ := (show RunT g ρ H Q (.ok (.bl false) h1) from hr)
        cases ec2
        exact q ρ' H' m s ⟨.bl false, .pure (.bl _)⟩
    | _ => exact (show False from hr).elim
  | _ => rw [e] at hr; exact (show False from hr).elim
theorem RunT.or_inv {ρ : List Addr} {H : Hp} {Q : Bool → Hp → Prop} {a b : I} {sg : Sg} {h : Hh} (sim : Sim g ρ h H)
    (hr : RunT g ρ H Q (ev P (n + 1) (.or a b) sg h)) : RunT g ρ H (fun c H1 => if c = true then Q true H1 else (∀ σ, EnvR g ρ H sg σ → tT P g n b σ H1 Q)) (ev P n a sg h) := by
  have hr : RunT g ρ H Q ((ev P n a sg h).on fun x h1 => match x with
      | .bl false => ev P n b sg h1
      | .bl true => .ok (.bl true) h1
      | _ => .no) := hr
  cases e : ev P n a sg h with
  | ok d h1 =>
    rw [e] at hr
    cases d with
    | bl c =>
      refine ⟨c, rfl, fun ρ' H' m s rr => ?_⟩
      cases c with
      | false =>
        rw [if_neg Bool.false_ne_true]
        refine fun σ er => ⟨ρ', h1, sg, s, er.mono m, ?_⟩
        have hr : RunT g ρ H Q (ev P n b sg h1) := hr
        cases e2 : ev P n b sg h1 with
        | ok d2 h2 =>
          rw [e2] at hr
          obtain ⟨c2, ec2, q⟩ := hr
          exact ⟨c2, ec2, fun ρ2 H2 m2 s2 rr2 => q ρ2 H2 (m.trans m2) s2 rr2⟩
        | _ => rw [e2] at hr; exact (show False from hr).elim
      | true =>
        rw [if_pos rfl]
        obtain ⟨c2, ec2, q⟩ := (show RunT g ρ H Q (.ok (.bl true) h1) from hr)
        cases ec2
        exact q ρ' H' m s ⟨.bl true, .pure (.bl _)⟩
    | _ => exact (show False from hr).elim
  | _ => rw [e] at hr; exact (show False from hr).elim
theorem tand_imp {a b : I} : ∀ σ H Q, tT P g (n + 1) (.and a b) σ H Q → tAnd (tT P g n a) (tT P g n b) σ H Q := fun σ H Q hr => by
  obtain ⟨ρ, h, sg, sim, er, hr⟩ := hr
  refine ⟨ρ, h, sg, sim, er, ?_⟩
  have q := RunT.and_inv sim hr
  cases e : ev P n a sg h with
  | ok d h1 =>
    rw [e] at q
    obtain ⟨c, ec, q⟩ := q
    refine ⟨c, ec, fun ρ' H' m s rr => ?_⟩
    have q' := q ρ' H' m s rr
    cases c with
    | true => rw [if_pos rfl] at q'; show (if true = true then tT P g n b σ H' Q else Q false H'); rw [if_pos rfl]; exact q' σ er
    | false => rw [if_neg Bool.false_ne_true] at q'; show (if false = true then tT P g n b σ H' Q else Q false H'); rw [if_neg Bool.false_ne_true]; exact q'
  | _ => rw [e] at q; exact (show False from q).elim
theorem tor_imp {a b : I} : ∀ σ H Q, tT P g (n + 1) (.or a b) σ H Q → tOr (tT P g n a) (tT P g n b) σ H Q := fun σ H Q hr => by
  obtain ⟨ρ, h, sg, sim, er, hr⟩ := hr
  refine ⟨ρ, h, sg, sim, er, ?_⟩
  have q := RunT.or_inv sim hr
  cases e : ev P n a sg h with
  | ok d h1 =>
    rw [e] at q
    obtain ⟨c, ec, q⟩ := q
    refine ⟨c, ec, fun ρ' H' m s rr => ?_⟩
    have q' := q ρ' H' m s rr
    cases c with
    | false => rw [if_neg Bool.false_ne_true] at q'; show (if false = true then Q true H' else tT P g n b σ H' Q); rw [if_neg Bool.false_ne_true]; exact q' σ er
    | true => rw [if_pos rfl] at q'; show (if true = true then Q true H' else tT P g n b σ H' Q); rw [if_pos rfl]; exact q'
  | _ => rw [e] at q; exact (show False from q).elim
theorem tnot_imp {a : I} : ∀ σ H Q, tT P g (n + 1) (.not a) σ H Q → tT P g n a σ H (fun b => Q (!b)) := fun σ H Q hr => by
  obtain ⟨ρ, h, sg, sim, er, hr⟩ := hr
  refine ⟨ρ, h, sg, sim, er, ?_⟩
  have hr : RunT g ρ H Q ((ev P n a sg h).onb fun b h1 => .ok (.bl !b) h1) := hr
  cases e : ev P n a sg h with
  | ok d h1 =>
    rw [e] at hr
    have hr : RunT g ρ H Q (match tru h1 d with | some b => .ok (.bl !b) h1 | none => .no) := hr
    cases e2 : tru h1 d with
    | none => rw [e2] at hr; exact (show False from hr).elim
    | some b =>
      rw [e2] at hr
      obtain ⟨c3, e3, q⟩ := hr
      cases e3
      exact ⟨b, e2, fun ρ' H' m s rr => q ρ' H' m s ⟨.bl _, .pure (.bl _)⟩⟩
  | _ => rw [e] at hr; exact (show False from hr).elim
theorem cmp_imp {o : COp} {a b : I} : ∀ σ H Q, tE P g (n + 1) (.cmp o a b) σ H Q → tOp (rCop g o) (tE P g n a) (tE P g n b) σ H Q := fun σ H Q hr => by
  obtain ⟨ρ, h, sg, sim, er, hr⟩ := hr
  refine ⟨ρ, h, sg, sim, er, Run.on (show Run g ρ H (ke Q) ((ev P n a sg h).on fun x h1 => (ev P n b sg h1).on fun y h2 => cmpop o x y h2) from hr) fun d h1 ρ1 H1 v m1 s1 r1 hr1 => ?_⟩
  refine ⟨ρ1, h1, sg, s1, er.mono m1, hr1.on fun d2 h2 ρ2 H2 v2 m2 s2 r2 hr2 => ?_⟩
  exact ⟨ρ2, h2, d, d2, s2, r1.mono m2, r2, hr2⟩
theorem m_T (ih : Main P g M n) (k : XOk P g M N X sc so (n + 1)) (i : I) (e : Expr) (c : ckT M N sc i e = true) : PT X e (tT P g (n + 1) i) := by
  unfold ckT at c
  split at c
  · split at c
    · split at c
      · obtain ⟨c1, c2⟩ := bnd c
        exact PT.imp (PW.pt (pw_and (ih.mT N X sc so k.down _ _ c1) (ih.mTAnd N X sc so k.down _ _ _ c2))) tand_imp
      · cases c
    · cases c
  · split at c
    · split at c
      · obtain ⟨c1, c2⟩ := bnd c
        exact PT.imp (PW.pt (pw_or (ih.mT N X sc so k.down _ _ c1) (ih.mTOr N X sc so k.down _ _ _ c2))) tor_imp
      · cases c
    · cases c
  · split at c
    · rename_i p x pos
      obtain ⟨c1, c2⟩ := bnd c
      cases p <;> first | (cases c1; done) | skip
      exact PT.imp (pt_not (ih.mT N X sc so k.down _ _ c2)) tnot_imp
    · cases c
  · split at c
    · split at c
      · obtain ⟨c, c4⟩ := bnd c
        obtain ⟨c, c3⟩ := bnd c
        obtain ⟨c1, c2⟩ := bnd c
        obtain rfl := copB_ok c1
        exact PT.imp (pt_cmpR (op_cop k.hK k.room.units _) (ih.mE N X sc so k.down _ _ c2) (ih.mE N X sc so k.down _ _ c3) (behind_ok (notb c4))) (tTest_imp cmp_imp cmp_bl)
      · cases c
    · cases c
  · split at c
    · split at c
      · obtain ⟨c, c8⟩ := bnd c
        obtain ⟨c, c7⟩ := bnd c
        obtain ⟨c, c6⟩ := bnd c
        obtain ⟨c, c5⟩ := bnd c
        obtain ⟨c, c4⟩ := bnd c
        obtain ⟨c, c3⟩ := bnd c
        obtain ⟨c1, c2⟩ := bnd c
        obtain rfl := copB_ok c1
        obtain rfl := copB_ok c2
        exact PT.imp (pt_chain (op_cop k.hK k.room.units _) (op_cop k.hK k.room.units _) (ih.mE N X sc so k.down _ _ c5) (ih.mE N X sc so k.down _ _ c6) (ih.mE N X sc so k.down _ _ c7) (lm_ok (notb c8))) (tTest_imp (chn_imp ih c3) chn_bl)
      · cases c
    · cases c
  · obtain ⟨c1, c2⟩ := bnd c
    refine PT.imp (pt_truth (ih.mE N X sc so k.down _ _ c1) (plainT_ok c2)) fun σ H Q hr => ?_
    obtain ⟨ρ, h, sg, sim, er, hr⟩ := hr
    refine ⟨ρ, h, sg, sim, er, ?_⟩
    rw [k.hK]
    exact RunT.ofE hr
  · cases c
theorem m_TAnd (ih : Main P g M n) (k : XOk P g M N X sc so (n + 1)) (i : I) (es : List Expr) (pos : Pos) (c : ckTAnd M N sc i es = true) : PW X (.BoolOp .And es pos) (tT P g (n + 1) i) := by
  unfold ckTAnd at c
  split at c
  · split at c
    · obtain ⟨c1, c2⟩ := bnd c
      exact PW.imp (pw_and (ih.mT N X sc so k.down _ _ c1) (ih.mTAnd N X sc so k.down _ _ _ c2)) tand_imp
    · cases c
  · split at c
    · exact PW.imp (pw_and1 (ih.mT N X sc so k.down _ _ c)) fun _ _ _ hr => hr
    · cases c
  · cases c
theorem m_TOr (ih : Main P g M n) (k : XOk P g M N X sc so (n + 1)) (i : I) (es : List Expr) (pos : Pos) (c : ckTOr M N sc i es = true) : PW X (.BoolOp .Or es pos) (tT P g (n + 1) i) := by
  unfold ckTOr at c
  split at c
  · split at c
    · obtain ⟨c1, c2⟩ := bnd c
      exact PW.imp (pw_or (ih.mT N X sc so k.down _ _ c1) (ih.mTOr N X sc so k.down _ _ _ c2)) tor_imp
    · cases c
  · split at c
    · exact PW.imp (pw_or1 (ih.mT N X sc so k.down _ _ c)) fun _ _ _ hr => hr
    · cases c
  · cases c
end
end Ev
-- EvM
/-! calls, built-ins, methods -/
namespace Ev
open PySem PySem.Spec PyProof.Rows L2
section
variable {P : Pg} {g : G} {M : Nm} {N : List Str} {X : Cx} {sc so : Scope} {n : Nat}
theorem stars1 {e : Expr} {es : List Expr} {env : Env} {pos : Pos} (h : ((e :: es).all fun e => !isStar e) = true) : starEach (e :: es) env = (false, eval e env) :: starEach es env ∧ (backTo pos (starEach es env)).any (·.1) = false := by
  rw [List.all_cons] at h
  obtain ⟨h1, h2⟩ := bnd h
  exact ⟨notStar (notb h1), noStars h2⟩
theorem s_cal (ih : Main P g M n) (k : XOk P g M N X sc so (n + 1)) {f : Nat} {a : I} {e : Expr} (c : ckE M N sc (.cal f a) e = true) : PE X e (tE P g (n + 1) (.cal f a)) := by
  unfold ckE at c
  split at c
  · rename_i fn es ks pos
    obtain ⟨c, c5⟩ := bnd c
    obtain ⟨c, c4⟩ := bnd c
    obtain ⟨c, c3⟩ := bnd c
    obtain ⟨c1, c2⟩ := bnd c
    cases fn with
    | Name x p =>
      have c1 : (match M.fs[f]? with
        | some (y, _) => decide (x = y) && glB sc x
        | none => false) = true := c1
      cases hfs : M.fs[f]? with
      | none => rw [hfs] at c1; cases c1
      | some yp =>
        obtain ⟨y, ps⟩ := yp
        rw [hfs] at c1
        obtain ⟨d1, d2⟩ := bnd c1
        obtain rfl := of_decide_eq_true d1
        obtain ⟨g1, g2⟩ := glB_ok k d2
        cases ks with
        | cons _ _ => cases c3
        | nil =>
          cases es with
          | nil => cases c4
          | cons e es =>
            obtain ⟨st1, st2⟩ := stars1 (env := X.env) (pos := pos) c5
            obtain ⟨fd, F, B⟩ := ih.mF N X sc so k f x ps hfs
            obtain ⟨m1, m2⟩ := k.mg.fn f x ps hfs
            rw [← k.hK] at m2
            refine PE.imp (pe_call (E := fun _ _ _ => False) F k.room g1 m1 m2 B .nil pass0 (ih.mA N X sc so k.down a _ c2) g2 st1 st2) fun σ H Q hr => ?_
            obtain ⟨ρ, h, sg, sim, er, hr⟩ := hr
            refine ⟨ρ, h, sg, sim, er, Run.ons (show Run g ρ H (ke Q) ((ev P n a sg h).ons fun ds h1 => callF P n f ds h1) from hr) fun ds h1 ρ1 H1 vs m1 s1 r1 hr1 => ?_⟩
            rw [List.append_nil]
            exact ⟨ρ1, h1, ds, s1, r1, hr1⟩
    | _ => cases c1
  · cases c
theorem tCB_imp {b : Bi} {a : I} : ∀ σ H Q, tE P g (n + 1) (.blt b a) σ H Q → tCB (rBi g b) (tA P g n a) σ H Q := fun σ H Q hr => by
  obtain ⟨ρ, h, sg, sim, er, hr⟩ := hr
  refine ⟨ρ, h, sg, sim, er, Run.ons (show Run g ρ H (ke Q) ((ev P n a sg h).ons fun ds h1 => builtin b ds h1) from hr) fun ds h1 ρ1 H1 vs m1 s1 r1 hr1 => ?_⟩
  exact ⟨ρ1, h1, ds, s1, r1, hr1⟩
theorem boot_f {x : Str} {id : String} (h : (match bootBuiltins x with | some (.builtin i) => decide (i = id) | _ => false) = true) : bootBuiltins x = some (.builtin id) := by
  split at h
  · rename_i i e
    rw [e, of_decide_eq_true h]
  · cases h
theorem s_bltF (ih : Main P g M n) (k : XOk P g M N X sc so (n + 1)) {b : Bi} {a : I} {id : String} {x : Str} {p pos : Pos} {es : List Expr} (hc : CallR X (.builtin id) (rBi g b)) (hv : bootBuiltins (biName b) = some (.builtin id)) (hn : biName b ≠ "__name__")
    (c1 : bltB M sc x (biName b) = true) (c : (ckA M N sc a es && !es.isEmpty && es.all fun e => !isStar e) = true) : PE X (.Call (.Name x p) es [] pos) (tE P g (n + 1) (.blt b a)) := by
  obtain ⟨rfl, g1, g2, g3⟩ := bltB_ok k c1
  obtain ⟨c, c5⟩ := bnd c
  obtain ⟨c2, c4⟩ := bnd c
  cases es with
  | nil => cases c4
  | cons e es =>
    obtain ⟨st1, st2⟩ := stars1 (env := X.env) (pos := pos) c5
    exact PE.imp (pe_callB hc g1 g2 hv (ih.mA N X sc so k.down a _ c2) hn g3 st1 st2) tCB_imp
theorem s_bltT (ih : Main P g M n) (k : XOk P g M N X sc so (n + 1)) {b : Bi} {a : I} {id : String} {x : Str} {p pos : Pos} {es : List Expr} (hc : CallR X (.type id) (rBi g b)) (hv : bootBuiltins (biName b) = some (.type id)) (hn : biName b ≠ "__name__")
    (c1 : bltB M sc x (biName b) = true) (c : (ckA M N sc a es && !es.isEmpty && es.all fun e => !isStar e) = true) : PE X (.Call (.Name x p) es [] pos) (tE P g (n + 1) (.blt b a)) := by
  obtain ⟨rfl, g1, g2, g3⟩ := bltB_ok k c1
  obtain ⟨c, c5⟩ := bnd c
  obtain ⟨c2, c4⟩ := bnd c
  cases es with
  | nil => cases c4
  | cons e es =>
    obtain ⟨st1, st2⟩ := stars1 (env := X.env) (pos := pos) c5
    exact PE.imp (pe_callTy hc g1 g2 hv (ih.mA N X sc so k.down a _ c2) hn g3 st1 st2) tCB_imp
theorem isi_imp {b : Bi} {T : String} {a : I} : ∀ σ H Q, tE P g (n + 1) (.isi b a) σ H Q → tCB (rIsi g b T) (tCons (tE P g n a) (tCons (tC (.ty T)) tNil)) σ H Q := fun σ H Q hr => by
  obtain ⟨ρ, h, sg, sim, er, hr⟩ := hr
  refine ⟨ρ, h, sg, sim, er, Run.on (show Run g ρ H (ke Q) ((ev P n a sg h).on fun d h1 => builtin b [d] h1) from hr) fun d h1 ρ1 H1 v m1 s1 r1 hr1 => ?_⟩
  exact ⟨v, ρ1, h1, d, rfl, s1, r1, hr1⟩
theorem boot_isi : bootBuiltins "isinstance" = some (.builtin "isinstance") := by decide
theorem isi_ty (b : Bi) (h : isiB b = true) : ∃ T, ((b = .isIntB ∧ T = "int") ∨ (b = .isBoolB ∧ T = "bool") ∨ (b = .isTupB ∧ T = "tuple")) ∧ bootBuiltins (isiN b) = some (.type T) ∧ isiN b ≠ "__name__" := by
  cases b <;> first | (cases h; done) | skip
  · exact ⟨"int", .inl ⟨rfl, rfl⟩, by decide, by decide⟩
  · exact ⟨"bool", .inr (.inl ⟨rfl, rfl⟩), by decide, by decide⟩
  · exact ⟨"tuple", .inr (.inr ⟨rfl, rfl⟩), by decide, by decide⟩
theorem s_isi (ih : Main P g M n) (k : XOk P g M N X sc so (n + 1)) {b : Bi} {a : I} {e : Expr} (c : ckE M N sc (.isi b a) e = true) : PE X e (tE P g (n + 1) (.isi b a)) := by
  unfold ckE at c
  split at c
  · rename_i fn es ks pos
    obtain ⟨c, c3⟩ := bnd c
    obtain ⟨c1, c2⟩ := bnd c
    cases ks with
    | cons _ _ => cases c2
    | nil =>
      split at c1
      · rename_i x p
        split at c3
        · rename_i v t
          obtain ⟨c3, c6⟩ := bnd c3
          obtain ⟨c4, c5⟩ := bnd c3
          cases t with
          | Name y q =>
            obtain ⟨c5, c7⟩ := bnd c5
            obtain ⟨T, hb, hv, hn⟩ := isi_ty b c7
            obtain ⟨rfl, g1, g2, g3⟩ := bltB_ok k c1
            obtain ⟨rfl, g4, g5, g6⟩ := bltB_ok k c5
            have nv := notb c6
            obtain ⟨st1, st2⟩ := stars1 (e := v) (es := [.Name (isiN b) q]) (env := X.env) (pos := pos) (by rw [List.all_cons, nv]; rfl)
            exact PE.imp (pe_callB (cr_isi k.hK hb) g1 g2 boot_isi (pa_cons (ih.mE N X sc so k.down a v c4) (pa_cons (pe_bltn (v := .ty T) g4 g5 hv rfl hn g6) pa_nil) st1) (by decide) g3 st1 st2) isi_imp
          | _ => cases c5
        · cases c3
      · cases c1
  · cases c
theorem s_blt (ih : Main P g M n) (k : XOk P g M N X sc so (n + 1)) {b : Bi} {a : I} {e : Expr} (c : ckE M N sc (.blt b a) e = true) : PE X e (tE P g (n + 1) (.blt b a)) := by
  unfold ckE at c
  split at c
  · rename_i fn es ks pos
    obtain ⟨c, c3⟩ := bnd c
    obtain ⟨c1, c2⟩ := bnd c
    cases ks with
    | cons _ _ => cases c2
    | nil =>
      split at c1
      · rename_i x p
        obtain ⟨c1, c4⟩ := bnd c1
        cases b with
        | len => exact s_bltF ih k (id := "len") (cr_len k.hK) (by decide) (by decide) c1 c3
        | int => exact s_bltT ih k (id := "int") cr_int (by decide) (by decide) c1 c3
        | abs => exact s_bltF ih k (id := "abs") cr_abs (by decide) (by decide) c1 c3
        | max1 => exact s_bltF ih k (id := "max") (cr_max1 k.hK k.calm) (by decide) (by decide) c1 c3
        | max2 => exact s_bltF ih k (id := "max") (cr_max2 k.calm) (by decide) (by decide) c1 c3
        | min2 => exact s_bltF ih k (id := "min") (cr_min2 k.calm) (by decide) (by decide) c1 c3
        | sum => exact s_bltF ih k (id := "sum") (cr_sumE k.calm) (by decide) (by decide) c1 c3
        | any => exact s_bltF ih k (id := "any") (cr_anyE k.hK k.calm) (by decide) (by decide) c1 c3
        | all => exact s_bltF ih k (id := "all") (cr_allE k.calm) (by decide) (by decide) c1 c3
        | tuple => exact s_bltT ih k (id := "tuple") (cr_tupleE k.hK) (by decide) (by decide) c1 c3
        | list => exact s_bltT ih k (id := "list") (cr_listE k.hK) (by decide) (by decide) c1 c3
        | _ => cases c4
      · cases c1
  · cases c
/-! methods of lists -/
theorem base_ok {o : Expr} {name : Str} {env : Env} (h : isCall o = false) : attributeBase o name env (eval o env) = eval o env := by
  cases o <;> first | rfl | cases h
theorem sim_at {ρ : List Addr} {h : Hh} {H : Hp} (s : Sim g ρ h H) {a : Nat} {p : Addr} (e : ρ[a]? = some p) : ∃ ds vs, h[a]? = some ds ∧ H p = some (.lst vs) ∧ Reps g (ρ.take a) H ds vs := by
  have hl : a < h.length := by rw [← s.len]; exact (List.getElem?_eq_some_iff.mp e).1
  obtain ⟨q, vs, h1, h2, h3⟩ := s.at_ a h[a] (by simp [hl])
  rw [e] at h1
  cases h1
  exact ⟨_, vs, by simp [hl], h2, h3⟩
theorem ty_lst {K : PySem.W.Frag} {H : Hp} {p : Addr} {vs : List V} (e : H p = some (.lst vs)) : tyV K "list" (.ref p) H := .inl ⟨rfl, vs, SqL.of e⟩
theorem line_lt {n : Nat} (h : Nat.blt n line = true) : n < sizeLine := by
  have : n < line := Nat.le_of_ble_eq_true h
  rw [sizeLine_eq]
  exact this
theorem app_imp {o v : I} (hK : X.K = g.K) {σ : L2.St} {H : Hp} {Q : VK} (hr : tE P g (n + 1) (.app o v) σ H Q) : tBM X.K "list" rAppend (tE P g n o) (tCons (tE P g n v) tNil) σ H Q := by
  obtain ⟨ρ, h, sg, sim, er, hr⟩ := hr
  refine ⟨ρ, h, sg, sim, er, Run.on (show Run g ρ H (ke Q) ((ev P n o sg h).on fun x h1 => (ev P n v sg h1).on fun y h2 => match x with
      | .ptr a => match h2[a]? with
        | some ds => match Nat.blt ds.length line && !isPtr y with
          | true => .ok .non (h2.set a (ds ++ [y]))
          | false => .no
        | none => .no
      | _ => .no) from hr) fun d h1 ρ1 H1 x m1 s1 r1 hr1 => ?_⟩
  have hr2 : Run g ρ1 H1 (ke fun y H2 => rAppend x [y] H2 Q) (ev P n v sg h1) := hr1.on fun e h2 ρ2 H2 y m2 s2 r2 hr2 => by
    cases d with
    | ptr a =>
      dsimp only at hr2
      cases e2 : h2[a]? with
      | none => rw [e2] at hr2; exact (show False from hr2).elim
      | some ds =>
        rw [e2] at hr2
        dsimp only at hr2
        cases e3 : (Nat.blt ds.length line && !isPtr e) with
        | false => rw [e3] at hr2; exact (show False from hr2).elim
        | true =>
          rw [e3] at hr2
          obtain ⟨z1, z2⟩ := bnd e3
          obtain ⟨p, rfl, hp⟩ := r1.ptr'
          obtain ⟨ds', vs, h3, h4, h5⟩ := sim_at s2 (m2.2 _ _ hp)
          rw [e2] at h3
          cases h3
          have rp := h5.append (.cons (.pure (r2.toP (notb z2))) .nil)
          obtain ⟨s3, m3⟩ := s2.write (m2.2 _ _ hp) h4 rp
          exact ⟨p, vs, y, rfl, rfl, h4, by rw [← h5.length]; exact line_lt z1, hr2 ρ2 _ .non m3 s3 (.pure .non)⟩
    | _ => exact (show False from hr2).elim
  cases d with
  | ptr a =>
    obtain ⟨p, rfl, hp⟩ := r1.ptr'
    obtain ⟨ds, vs, h3, h4, h5⟩ := sim_at s1 hp
    exact ⟨ty_lst h4, ρ1, h1, sg, s1, er.mono m1, hr2⟩
  | _ =>
    exfalso
    cases q : ev P n v sg h1 with
    | ok e h2 => rw [q] at hr1; exact (show False from hr1)
    | _ => rw [q] at hr1; exact (show False from hr1)
theorem ext_imp {o v : I} (hK : X.K = g.K) {σ : L2.St} {H : Hp} {Q : VK} (hr : tE P g (n + 1) (.ext o v) σ H Q) : tBM X.K "list" rExtend (tE P g n o) (tCons (tE P g n v) tNil) σ H Q := by
  obtain ⟨ρ, h, sg, sim, er, hr⟩ := hr
  refine ⟨ρ, h, sg, sim, er, Run.on (show Run g ρ H (ke Q) ((ev P n o sg h).on fun x h1 => (ev P n v sg h1).on fun y h2 => match x, y with
      | .ptr a, .ptr b => match h2[a]?, h2[b]? with
        | some ds, some es => match es.any isPtr with
          | true => .no
          | false => match catO ds es with
            | some fs => .ok .non (h2.set a fs)
            | none => .no
        | _, _ => .no
      | _, _ => .no) from hr) fun d h1 ρ1 H1 x m1 s1 r1 hr1 => ?_⟩
  have hr2 : Run g ρ1 H1 (ke fun y H2 => rExtend x [y] H2 Q) (ev P n v sg h1) := hr1.on fun e h2 ρ2 H2 y m2 s2 r2 hr2 => by
    cases d with
    | ptr a =>
      cases e with
      | ptr b =>
        dsimp only at hr2
        cases e2 : h2[a]? with
        | none => rw [e2] at hr2; exact (show False from hr2).elim
        | some ds =>
          cases e4 : h2[b]? with
          | none => rw [e2, e4] at hr2; exact (show False from hr2).elim
          | some es =>
            rw [e2, e4] at hr2
            dsimp only at hr2
            cases e3 : es.any isPtr with
            | true => rw [e3] at hr2; exact (show False from hr2).elim
            | false =>
              rw [e3] at hr2
              dsimp only at hr2
              cases e5 : catO ds es with
              | none => rw [e5] at hr2; exact (show False from hr2).elim
              | some fs =>
                rw [e5] at hr2
                obtain ⟨p, rfl, hp⟩ := r1.ptr'
                obtain ⟨q, rfl, hq⟩ := r2.ptr'
                obtain ⟨ds', vs, h3, h4, h5⟩ := sim_at s2 (m2.2 _ _ hp)
                obtain ⟨es', ws, h6, h7, h8⟩ := sim_at s2 hq
                rw [e2] at h3
                cases h3
                rw [e4] at h6
                cases h6
                have rp := h5.append (h8.toP e3).reps
                have e5' : (match Nat.ble (ds.length + es.length) line with
                  | true => some (ds ++ es)
                  | false => none) = some fs := e5
                cases e6 : Nat.ble (ds.length + es.length) line with
                | false => rw [e6] at e5'; cases e5'
                | true =>
                  rw [e6] at e5'
                  cases e5'
                  obtain ⟨s3, m3⟩ := s2.write (m2.2 _ _ hp) h4 rp
                  have hl := line_le e6
                  rw [h5.length, h8.length] at hl
                  exact ⟨p, q, vs, ws, rfl, rfl, h4, h7, hl, hr2 ρ2 _ .non m3 s3 (.pure .non)⟩
      | _ => exact (show False from hr2).elim
    | _ => cases e <;> exact (show False from hr2).elim
  cases d with
  | ptr a =>
    obtain ⟨p, rfl, hp⟩ := r1.ptr'
    obtain ⟨ds, vs, h3, h4, h5⟩ := sim_at s1 hp
    exact ⟨ty_lst h4, ρ1, h1, sg, s1, er.mono m1, hr2⟩
  | _ =>
    exfalso
    cases q : ev P n v sg h1 with
    | ok e h2 => rw [q] at hr1; cases e <;> exact (show False from hr1)
    | _ => rw [q] at hr1; exact (show False from hr1)
theorem pop_imp {o : I} (hK : X.K = g.K) {σ : L2.St} {H : Hp} {Q : VK} (hr : tE P g (n + 1) (.pop o) σ H Q) : tBM0 X.K "list" rPop (tE P g n o) σ H Q := by
  obtain ⟨ρ, h, sg, sim, er, hr⟩ := hr
  refine ⟨ρ, h, sg, sim, er, Run.on (show Run g ρ H (ke Q) ((ev P n o sg h).on fun x h1 => match x with
      | .ptr a => match h1[a]? with
        | some ds => match ds.getLast? with
          | some d => .ok d (h1.set a ds.dropLast)
          | none => .no
        | none => .no
      | _ => .no) from hr) fun d h1 ρ1 H1 x m1 s1 r1 hr1 => ?_⟩
  cases d with
  | ptr a =>
    dsimp only at hr1
    obtain ⟨p, rfl, hp⟩ := r1.ptr'
    obtain ⟨ds, vs, h3, h4, h5⟩ := sim_at s1 hp
    rw [h3] at hr1
    dsimp only at hr1
    cases e5 : ds.getLast? with
    | none => rw [e5] at hr1; exact (show False from hr1).elim
    | some u =>
      rw [e5] at hr1
      rw [List.getLast?_eq_getElem?] at e5
      obtain ⟨y, e6, r6⟩ := h5.get e5
      obtain ⟨s3, m3⟩ := s1.write hp h4 h5.dropLast
      refine ⟨ty_lst h4, p, vs, y, rfl, rfl, h4, by rw [← h5.length]; exact e6, hr1 ρ1 _ y m3 s3 ?_⟩
      exact (r6.mono0 m3.h (take_pf ρ1 a))
  | _ => exact (show False from hr1).elim
theorem s_app (ih : Main P g M n) (k : XOk P g M N X sc so (n + 1)) {o v : I} {e : Expr} (c : ckE M N sc (.app o v) e = true) : PE X e (tE P g (n + 1) (.app o v)) := by
  unfold ckE at c
  split at c
  · rename_i fn es ks pos
    split at c
    · rename_i x m ap y
      obtain ⟨c, c7⟩ := bnd c
      obtain ⟨c, c6⟩ := bnd c
      obtain ⟨c, c5⟩ := bnd c
      obtain ⟨c, c4⟩ := bnd c
      obtain ⟨c, c3⟩ := bnd c
      obtain ⟨c1, c2⟩ := bnd c
      obtain rfl := of_decide_eq_true c1
      cases ks with
      | cons _ _ => cases c4
      | nil =>
        have ny := notb c5
        obtain ⟨st1, st2⟩ := stars1 (e := y) (es := []) (env := X.env) (pos := pos) (by rw [List.all_cons, ny]; rfl)
        refine PE.imp (pe_bm F.plainAttrs_list F.slot_list_append F.type_list_append mt_append (ih.mE N X sc so k.down o x c2) (pa_cons (ih.mE N X sc so k.down v y c3) pa_nil st1) (base_ok (notb c7)) (by rw [st1]; rfl) (by simpa using c6) st1 st2) fun σ H Q hr => ?_
        exact app_imp k.hK hr
    · cases c
  · cases c
theorem s_ext (ih : Main P g M n) (k : XOk P g M N X sc so (n + 1)) {o v : I} {e : Expr} (c : ckE M N sc (.ext o v) e = true) : PE X e (tE P g (n + 1) (.ext o v)) := by
  unfold ckE at c
  split at c
  · rename_i fn es ks pos
    split at c
    · rename_i x m ap y
      obtain ⟨c, c7⟩ := bnd c
      obtain ⟨c, c6⟩ := bnd c
      obtain ⟨c, c5⟩ := bnd c
      obtain ⟨c, c4⟩ := bnd c
      obtain ⟨c, c3⟩ := bnd c
      obtain ⟨c1, c2⟩ := bnd c
      obtain rfl := of_decide_eq_true c1
      cases ks with
      | cons _ _ => cases c4
      | nil =>
        have ny := notb c5
        obtain ⟨st1, st2⟩ := stars1 (e := y) (es := []) (env := X.env) (pos := pos) (by rw [List.all_cons, ny]; rfl)
        refine PE.imp (pe_bm F.plainAttrs_list F.slot_list_extend F.type_list_extend mt_extend (ih.mE N X sc so k.down o x c2) (pa_cons (ih.mE N X sc so k.down v y c3) pa_nil st1) (base_ok (notb c7)) (by rw [st1]; rfl) (by simpa using c6) st1 st2) fun σ H Q hr => ?_
        exact ext_imp k.hK hr
    · cases c
  · cases c
theorem s_pop (ih : Main P g M n) (k : XOk P g M N X sc so (n + 1)) {o : I} {e : Expr} (c : ckE M N sc (.pop o) e = true) : PE X e (tE P g (n + 1) (.pop o)) := by
  unfold ckE at c
  split at c
  · rename_i fn es ks pos
    split at c
    · rename_i x m ap
      obtain ⟨c, c7⟩ := bnd c
      obtain ⟨c, c6⟩ := bnd c
      obtain ⟨c, c4⟩ := bnd c
      obtain ⟨c1, c2⟩ := bnd c
      obtain rfl := of_decide_eq_true c1
      cases ks with
      | cons _ _ => cases c4
      | nil =>
        exact PE.imp (pe_bm0 F.plainAttrs_list F.slot_list_pop F.type_list_pop mt_pop (ih.mE N X sc so k.down o x c2) (base_ok (notb c7)) (by simpa using c6)) fun σ H Q hr => pop_imp k.hK hr
    · cases c
  · cases c
end
end Ev
-- EvM2
/-! a tuple's index -/
namespace Ev
open PySem PySem.Spec PyProof.Rows L2
theorem idxO_ok {z : Int} : ∀ {is : List Int} {i : Nat}, idxO z is = some i → is[i]? = some z ∧ ∀ m, m < i → is[m]? ≠ some z
  | [], i, h => by cases h
  | x :: xs, i, h => by
    unfold idxO at h
    cases c : decide (x = z) with
    | true =>
      rw [c] at h
      cases h
      rw [of_decide_eq_true c]
      exact ⟨rfl, fun m hm => absurd hm (Nat.not_lt_zero m)⟩
    | false =>
      rw [c] at h
      dsimp only at h
      cases e : idxO z xs with
      | none => rw [e] at h; cases h
      | some j =>
        rw [e] at h
        cases h
        obtain ⟨h1, h2⟩ := idxO_ok e
        refine ⟨h1, fun m hm => ?_⟩
        cases m with
        | zero =>
          have := of_decide_eq_false c
          show some x ≠ some z
          exact fun e => this (Option.some.inj e)
        | succ m => exact h2 m (Nat.lt_of_succ_lt_succ hm)
section
variable {X : Cx}
def rIxT (K : PySem.W.Frag) : V → List V → Hp → VK → Prop := fun x xs H Q => ∃ (p : Addr) (ns : List Int) (z : Int) (j : Nat), x = .ref p ∧ xs = [.int z] ∧ SqT K H p (ns.map V.int) ∧ ns[j]? = some z ∧ (∀ m, m < j → ns[m]? ≠ some z) ∧ Q (.int (j : Nat)) H
def tIdx (K : PySem.W.Frag) (to : TE) (t : TA) : TE := fun σ H Q => to σ H fun x H1 => (∃ p ys, x = .ref p ∧ SqN K H1 p ys) ∧ t σ H1 fun xs H2 => rIxT K x xs H2 Q
theorem sqN_is {pins : List (Addr × Obj)} {σ : L2.St} {H : Hp} {s : Shared} {p : Addr} {ys : List V} (I : Inv X pins σ H s) (h : SqN X.K H p ys) : s.TypeIs (.ref p) "tuple" ∧ ∀ a, Value.ref p = .ref a → ∃ ob, s.heap.get? a = some ob ∧ ob.dict = none := by
  have ht := h.t
  obtain ⟨its, _, ⟨o, h1, h2, h3⟩, _⟩ := I.tuple ht
  refine ⟨⟨o, h1, h2⟩, fun a e => ?_⟩
  cases e
  rcases h with ⟨o', h4, h5⟩ | ⟨o', _, _, h4, _, h5, _⟩
  · obtain ⟨e, _⟩ := (show ObjOk X.prog X.w H s.heap p (.frz o' (.tup ys)) from I.hok p _ h4)
    exact ⟨o', e, h5⟩
  · exact ⟨o', I.kIn p o' h4, h5⟩
theorem pe_idx {o e : Expr} {to : TE} {t : TA} {apos cpos : Pos} (ho : PE X o to) (ha : PA X [e] t)
    (hbase : attributeBase o "index" X.env (eval o X.env) = eval o X.env)
    (hfew : ((backTo cpos (starEach [e] X.env)).all (fun x => !x.1) && (backToKw cpos (keywordEach [] X.env)).all (fun x => x.1.isSome)
      && decide ([e].length + ([] : List Keyword).length + (if ([] : List Keyword).isEmpty then 0 else 1) < 30)) = true)
    (hline : (apos.endLine == cpos.line) = true) (hs : starEach [e] X.env = (false, eval e X.env) :: starEach [] X.env) (hplain : (backTo cpos (starEach [] X.env)).any (·.1) = false) :
    PE X (.Call (.Attribute o "index" apos) [e] [] cpos) (tIdx X.K to t) := by
  refine ⟨fun pins s σ H Q I h => ?_⟩
  refine wpAny_Call_method_late hbase hfew hline rfl (thn (ho.run pins s σ H _ I h) fun v s1 ⟨x, H1, I1, r1, ⟨p, ys, ex, hn⟩, q1⟩ => ?_)
  subst ex
  cases (show v = Value.ref p from r1)
  obtain ⟨h1, h2⟩ := sqN_is I1 hn
  refine ⟨"tuple", "tuple.index", F.plainAttrs_tuple, F.slot_tuple_index, F.type_tuple_index, h1, h2, ?_⟩
  have hA := ha.run cpos pins s1 σ H1 _ I1 q1
  rw [hs] at hA ⊢
  refine Calls.callWith_builtin (by show (false || (backTo cpos (starEach [] X.env)).any (·.1)) = false; rw [hplain] <;> rfl) (Calls.evalArgs_plain ?_)
  exact thn hA fun us s2 ⟨vs, H2, I2, r2, q2⟩ => mt_tupix pins s2 σ H2 _ vs _ us Q I2 r1 r2 q2
end
section
variable {P : Pg} {g : G} {M : Nm} {N : List Str} {X : Cx} {sc so : Scope} {n : Nat}
theorem idx_imp {o v : I} (hK : X.K = g.K) {σ : L2.St} {H : Hp} {Q : VK} (hr : tE P g (n + 1) (.idx o v) σ H Q) : tIdx X.K (tE P g n o) (tCons (tE P g n v) tNil) σ H Q := by
  obtain ⟨ρ, h, sg, sim, er, hr⟩ := hr
  refine ⟨ρ, h, sg, sim, er, Run.on (show Run g ρ H (ke Q) ((ev P n o sg h).on fun x h1 => (ev P n v sg h1).on fun y h2 => match x, y with
      | .tup ds, .int z => match intsD ds with
        | some is => match idxO z is with
          | some i => .ok (.int (i : Int)) h2
          | none => .no
        | none => .no
      | _, _ => .no) from hr) fun d h1 ρ1 H1 x m1 s1 r1 hr1 => ?_⟩
  have isT : ∃ ds, d = .tup ds := by
    cases d with
    | tup ds => exact ⟨ds, rfl⟩
    | _ =>
      exfalso
      have hr1 := hr1
      cases c : ev P n v sg h1 with
      | ok y h2 => rw [c] at hr1; exact (show False from hr1)
      | _ => rw [c] at hr1; exact (show False from hr1)
  obtain ⟨ds, rfl⟩ := isT
  obtain ⟨a, vs, rfl, q, rr⟩ := r1.tup
  refine ⟨⟨a, vs, rfl, by rw [hK]; exact q⟩, ?_⟩
  refine ⟨ρ1, h1, sg, s1, er.mono m1, Run.on hr1 fun e h2 ρ2 H2 y m2 s2 r2 hr2 => ?_⟩
  show rIxT X.K _ [y] H2 Q
  cases e with
  | int z =>
    obtain rfl := r2.int
    dsimp only at hr2
    cases c : intsD ds with
    | none => rw [c] at hr2; exact (show False from hr2).elim
    | some is =>
      rw [c] at hr2
      dsimp only at hr2
      cases c2 : idxO z is with
      | none => rw [c2] at hr2; exact (show False from hr2).elim
      | some i =>
        rw [c2] at hr2
        obtain ⟨z1, z2⟩ := idxO_ok c2
        obtain rfl := ints_ok c (rr.reps (ρ := ρ1))
        exact ⟨a, is, z, i, rfl, rfl, by rw [hK]; exact (m2.h.sq _ _ q).t, z1, z2, hr2.mk s2 (.pure (.int _))⟩
  | _ => exact (show False from hr2).elim
theorem s_idx (ih : Main P g M n) (k : XOk P g M N X sc so (n + 1)) {o v : I} {e : Expr} (c : ckE M N sc (.idx o v) e = true) : PE X e (tE P g (n + 1) (.idx o v)) := by
  unfold ckE at c
  split at c
  · rename_i fn es ks pos
    split at c
    · rename_i x m ap y
      obtain ⟨c, c7⟩ := bnd c
      obtain ⟨c, c6⟩ := bnd c
      obtain ⟨c, c5⟩ := bnd c
      obtain ⟨c, c4⟩ := bnd c
      obtain ⟨c, c3⟩ := bnd c
      obtain ⟨c1, c2⟩ := bnd c
      obtain rfl := of_decide_eq_true c1
      cases ks with
      | cons _ _ => cases c4
      | nil =>
        have ny := notb c5
        obtain ⟨st1, st2⟩ := stars1 (e := y) (es := []) (env := X.env) (pos := pos) (by rw [List.all_cons, ny]; rfl)
        refine PE.imp (pe_idx (ih.mE N X sc so k.down o x c2) (pa_cons (ih.mE N X sc so k.down v y c3) pa_nil st1) (base_ok (notb c7)) (by rw [st1]; rfl) (by simpa using c6) st1 st2) fun σ H Q hr => ?_
        exact idx_imp k.hK hr
    · cases c
  · cases c
end
end Ev
-- EvSt
/-! x[::k]; len(set(x)) of tuples of ints -/
namespace Ev
open PySem PySem.Spec PyProof.Rows L2
theorem stepOk_of {k : Int} (h : stepOk k = true) : k = -1 ∨ (2 ≤ k ∧ k < 2 ^ 60) := by
  cases k with
  | ofNat n =>
    unfold stepOk at h
    rw [Bool.and_eq_true, Nat.ble_eq, Nat.blt_eq] at h
    right
    show (2 : Int) ≤ (n : Int) ∧ (n : Int) < 2 ^ 60
    omega
  | negSucc n =>
    have : n = 0 := Nat.eq_of_beq_eq_true h
    subst this
    exact .inl rfl
theorem nS_eq {n : Nat} {k : Int} (hk : 2 ≤ k) : ((if (0 : Int) < (n : Int) then ((n : Int) - 0 + k - 1) / k else 0)).toNat = nS n k.toNat := by
  obtain ⟨c, rfl⟩ : ∃ c : Nat, k = (c : Int) := ⟨k.toNat, by omega⟩
  unfold nS
  rw [Int.toNat_natCast]
  by_cases h : (0 : Int) < (n : Int)
  · rw [if_pos h]
    have e : ((n : Int) - 0 + (c : Int) - 1) = ((n + c - 1 : Nat) : Int) := by omega
    rw [e, ← Int.natCast_ediv, Int.toNat_natCast]
  · rw [if_neg h]
    have : n = 0 := by omega
    subst this
    rw [Nat.div_eq_of_lt (by omega)]
    rfl
theorem pick_step (xs : List Value) {k : Int} (h : k = -1 ∨ (2 ≤ k ∧ k < 2 ^ 60)) : slicePick xs.toArray none none (some k) = (stepL k xs).toArray := by
  rcases h with rfl | ⟨h1, h2⟩
  · rw [PySem.W.krv_pick]
    rfl
  · have hn : decide (k < 0) = false := decide_eq_false (by omega)
    unfold slicePick stepL
    rw [hn]
    dsimp only
    have hb : sliceBounds none none (some k) xs.toArray.size = (0, (xs.length : Int), k) := by
      unfold sliceBounds
      have : k > 0 := by omega
      simp [this]
    rw [hb]
    unfold sliceRange
    have hp : k > 0 := by omega
    simp only [hp, if_true]
    rw [nS_eq h1, List.filterMap_map]
    congr 1
    refine congrArg (fun f => List.filterMap f _) (funext fun m => ?_)
    show xs.toArray[(0 + k * (m : Int)).toNat]? = xs[m * k.toNat]?
    have e : (0 + k * (m : Int)).toNat = m * k.toNat := by
      obtain ⟨c, rfl⟩ : ∃ c : Nat, k = (c : Int) := ⟨k.toNat, by omega⟩
      rw [Int.toNat_natCast, Int.zero_add, ← Int.natCast_mul, Int.toNat_natCast, Nat.mul_comm]
    rw [e]
    simp
theorem stepL_len {α : Type} (k : Int) (xs : List α) (h : k = -1 ∨ (2 ≤ k ∧ k < 2 ^ 60)) : (stepL k xs).length ≤ xs.length := by
  unfold stepL
  rcases h with rfl | ⟨h1, h2⟩
  · show xs.reverse.length ≤ _
    rw [List.length_reverse]
    exact Nat.le_refl _
  · rw [show decide (k < 0) = false from decide_eq_false (by omega)]
    refine Nat.le_trans (List.length_filterMap_le _ _) ?_
    rw [List.length_range]
    unfold nS
    have hk : 2 ≤ k.toNat := by omega
    generalize k.toNat = c at *
    cases hn : xs.length with
    | zero =>
      rw [Nat.div_eq_of_lt (by omega)]
      exact Nat.le_refl _
    | succ n =>
      refine Nat.div_le_of_le_mul ?_
      have : c * (n + 1) = c * n + c := by rw [Nat.mul_add, Nat.mul_one]
      have : n ≤ c * n := Nat.le_mul_of_pos_left n (by omega)
      omega
theorem stepL_vals {k : Int} : ∀ {xs : List V} {us : List Value}, Vals xs us → Vals (stepL k xs) (stepL k us) := by
  intro xs us r
  unfold stepL
  cases decide (k < 0) with
  | true => exact r.reverse
  | false =>
    dsimp only
    rw [r.length]
    generalize nS us.length k.toNat = n
    have : ∀ l : List Nat, Vals (l.filterMap fun m => xs[m * k.toNat]?) (l.filterMap fun m => us[m * k.toNat]?) := fun l => by
      induction l with
      | nil => exact .nil
      | cons m l ih =>
        rw [List.filterMap_cons, List.filterMap_cons]
        cases e : xs[m * k.toNat]? with
        | none =>
          have : us[m * k.toNat]? = none := by
            rw [List.getElem?_eq_none_iff] at e ⊢
            rw [← r.length]; exact e
          rw [this]
          exact ih
        | some x =>
          obtain ⟨u, hu, ru⟩ := r.get e
          rw [hu]
          exact .cons ru ih
    exact this _
section
variable {prog : Program} {w : World} {A : Around} {E : Value → Shared → Prop} {s : Shared}
theorem sliceApplied_step {sl : Addr} {vs : Value} {k : Int} (hk : k ≠ 0) {n : Nat} {Q : Int × Int × Nat → Shared → Prop} (hs : s.heap.IsSliceOf sl .none .none vs) (pk : IsPart vs (some k))
    (h : Q ((Builtin.Slice.sliceAdjust none none k (n : Int)).1, k, Builtin.Slice.slicePlaces (Builtin.Slice.sliceAdjust none none k (n : Int)).1 (Builtin.Slice.sliceAdjust none none k (n : Int)).2 k) s) : wpAny (model prog w) A (Builtin.Slice.sliceApplied (.ref sl) (pure (n : Int))) Q E s := by
  obtain ⟨os, hos, hcs, hds⟩ := id hs
  unfold Builtin.Slice.sliceApplied Builtin.Slice.sliceFields
  refine wpAny_bind (wpAny_bind (wpAny_field hos hds (x := .none) rfl (wpAny_bind (wpAny_field hos hds (x := .none) rfl (wpAny_bind (wpAny_field hos hds (x := vs) rfl (wpAny_pure ?_)))))))
  refine wpAny_bind (HT.slicePart_ pk ?_)
  show wpAny _ _ (if (k == 0) = true then _ else _) _ _ s
  rw [if_neg (by simpa using hk)]
  refine wpAny_bind (slicePart_none (wpAny_bind (slicePart_none (wpAny_bind (wpAny_pure ?_)))))
  exact wpAny_pure h
theorem places_step {n : Nat} {k : Int} (h : k = -1 ∨ (2 ≤ k ∧ k < 2 ^ 60)) (xs : List Value) (hn : xs.length = n) :
    ((List.range (Builtin.Slice.slicePlaces (Builtin.Slice.sliceAdjust none none k (n : Int)).1 (Builtin.Slice.sliceAdjust none none k (n : Int)).2 k)).filterMap fun (m : Nat) => xs.toArray[((Builtin.Slice.sliceAdjust none none k (n : Int)).1 + (m : Int) * k).toNat]?) = stepL k xs := by
  rcases h with rfl | ⟨h1, h2⟩
  · have ea : Builtin.Slice.sliceAdjust none none (-1) (n : Int) = ((n : Int) - 1, -1) := rfl
    rw [ea]
    have ep : Builtin.Slice.slicePlaces ((n : Int) - 1) (-1) (-1) = n := by
      unfold Builtin.Slice.slicePlaces
      have z : ¬ ((-1 : Int) > 0) := by omega
      simp only [z, if_false]
      split
      · have : (- -1 : Int) = 1 := by omega
        rw [this, Int.ediv_one]
        omega
      · omega
    dsimp only
    rw [ep]
    show _ = xs.reverse
    have e : (List.range n).filterMap (fun (m : Nat) => xs.toArray[((n : Int) - 1 + (m : Int) * -1).toNat]?) = (List.range n).filterMap (fun m => xs[n - 1 - m]?) := by
      refine congrArg (fun f => List.filterMap f _) (funext fun m => ?_)
      have : ((n : Int) - 1 + (m : Int) * -1).toNat = n - 1 - m := by omega
      rw [this]
      simp
    rw [e]
    have e2 : (List.range n).filterMap (fun m => xs[n - 1 - m]?) = ((List.range n).map fun m => n - 1 - m).filterMap (fun m => xs[m]?) := by
      rw [List.filterMap_map]
      rfl
    rw [e2, PySem.W.krv_range, List.filterMap_reverse]
    have := PySem.W.krv_all xs.toArray
    simp only [List.size_toArray, List.getElem?_toArray] at this
    rw [hn] at this
    rw [this]
  · have hp : k > 0 := by omega
    have hnn : ¬ k < 0 := by omega
    have ea : Builtin.Slice.sliceAdjust none none k (n : Int) = (0, (n : Int)) := by
      unfold Builtin.Slice.sliceAdjust
      simp [hnn]
    rw [ea]
    dsimp only
    have ep : Builtin.Slice.slicePlaces 0 (n : Int) k = nS n k.toNat := by
      obtain ⟨c, rfl⟩ : ∃ c : Nat, k = (c : Int) := ⟨k.toNat, by omega⟩
      unfold Builtin.Slice.slicePlaces nS
      simp only [hp, if_true]
      rw [Int.toNat_natCast]
      by_cases z : (0 : Int) < (n : Int)
      · rw [if_pos z]
        have e : ((n : Int) - 0 - 1) / (c : Int) + 1 = (((n - 1) / c + 1 : Nat) : Int) := by
          have : ((n : Int) - 0 - 1) = ((n - 1 : Nat) : Int) := by omega
          rw [this, ← Int.natCast_ediv]
          rfl
        rw [e, Int.toNat_natCast]
        have c0 : 0 < c := by omega
        have e3 : n + c - 1 = (n - 1) + c := by omega
        rw [e3, Nat.add_div_right _ c0]
      · rw [if_neg z]
        have : n = 0 := by omega
        subst this
        rw [Nat.div_eq_of_lt (by omega)]
        rfl
    rw [ep]
    unfold stepL
    rw [show decide (k < 0) = false from decide_eq_false hnn, hn]
    refine congrArg (fun f => List.filterMap f _) (funext fun m => ?_)
    have e : (0 + (m : Int) * k).toNat = m * k.toNat := by
      obtain ⟨c, rfl⟩ : ∃ c : Nat, k = (c : Int) := ⟨k.toNat, by omega⟩
      rw [Int.toNat_natCast, Int.zero_add, ← Int.natCast_mul, Int.toNat_natCast]
    rw [e]
    simp
theorem getItem_tuple_step {t sl : Addr} {xs : List Value} {vs : Value} {k : Int} {Q : Value → Shared → Prop} (h : k = -1 ∨ (2 ≤ k ∧ k < 2 ^ 60)) (ht : IsTup s.heap t xs.toArray) (hs : s.heap.IsSliceOf sl .none .none vs) (pk : IsPart vs (some k))
    (hQ : Q (.ref s.heap.objs.size) { s with heap := s.heap.push { cls := .type "tuple", data := .seq (stepL k xs).toArray } })
    (hsz : xs.length ≤ sizeLine) : wpAny (model prog w) A (getItem (.ref t) (.ref sl)) Q E s := by
  have htake : sizeOk (.seq (stepL k xs).toArray) := by
    show (stepL k xs).toArray.size ≤ sizeLine
    rw [List.size_toArray]
    exact Nat.le_trans (stepL_len k xs h) hsz
  obtain ⟨os, hos, hcs, hds⟩ := id hs
  have hTs : s.TypeIs (.ref sl) "slice" := ⟨os, hos, hcs⟩
  unfold getItem
  try with_reducible refine wpAny_holding ?_
  first | refine wpAny_bind (wpAny_pure ?_) | skip
  refine wpAny_bind (wpAny_sequenceKey ht.typeIs (by decide) ?_)
  refine wpAny_bind (wpAny_callSpecial?_slot (name := Str.ofString "__getitem__") ht.typeIs PyProof.Rows.slot_tuple_getitem
    (wpAny_call_entry PyProof.Rows.slot_tuple_getitem ht.typeIs entry_tuple_getitem ?_ (args_tuple_getitem _ _)))
  show wpAny _ _ (Builtin.Tuple.tupleItemsOf (.ref t) >>= _) _ _ s
  refine wpAny_bind (tupleItemsOf_ ht ?_)
  refine wpAny_bind (wpAny_typeOf hTs ?_)
  rw [if_pos (by decide)]
  refine wpAny_bind (sliceApplied_step (by omega) hs pk ?_)
  generalize ea : Builtin.Slice.sliceAdjust none none k (xs.toArray.size : Int) = ab
  obtain ⟨a, b⟩ := ab
  have pl := places_step h xs rfl
  rw [← List.size_toArray] at pl
  rw [ea] at pl
  dsimp only at pl ⊢
  have hno : ¬ ((a == 0 && k == 1 && Builtin.Slice.slicePlaces a b k == xs.toArray.size) = true) := by
    intro q
    rw [Bool.and_eq_true, Bool.and_eq_true] at q
    have q1 : k = 1 := eq_of_beq q.1.2
    omega
  show wpAny _ _ (if (a == 0 && k == 1 && Builtin.Slice.slicePlaces a b k == xs.toArray.size) = true then _ else _) _ _ s
  rw [if_neg hno, pl]
  first
    | exact wpAny_bind (m := Builtin.Tuple.tupleExact _) (wpAny_newObj_type (wpAny_pure ⟨_, rfl, wpAny_pure hQ⟩) htake)
    | exact wpAny_bind (m := Builtin.Tuple.tupleExact _) (wpAny_newObj_type (wpAny_bind (wpAny_pure (wpAny_pure ⟨_, rfl, wpAny_pure hQ⟩))) htake)
    | exact wpAny_bind (wpAny_bind (m := Builtin.Tuple.tupleExact _) (wpAny_newObj_type (wpAny_pure (wpAny_pure ⟨_, rfl, wpAny_pure hQ⟩)) htake))
    | exact wpAny_bind (wpAny_bind (m := Builtin.Tuple.tupleExact _) (wpAny_newObj_type (wpAny_pure ⟨_, rfl, wpAny_pure hQ⟩) htake))
end
section
variable {X : Cx}
/-- a[::k] -/
def tStep (K : PySem.W.Frag) (ta tk : TE) : TE := fun σ H Q => ta σ H fun x H1 => tk σ H1 fun y H2 => ∃ a xs k, x = .ref a ∧ y = .int k ∧ (k = -1 ∨ (2 ≤ k ∧ k < 2 ^ 60)) ∧
  ((SqL K H2 a xs ∧ ∀ p, H2 p = none → Q (.ref p) (upd H2 p (.lst (stepL k xs)))) ∨ (SqT K H2 a xs ∧ NewT (stepL k xs) H2 Q))
theorem pe_step {e t : Expr} {te tt : TE} {p3 pos : Pos} (he : PE X e te) (ht : PE X t tt) : PE X (.Subscript e (.Slice none none (some t) p3) pos) (tStep X.K te tt) := by
  refine ⟨fun pins s σ H Q I h => ?_⟩
  refine Subscript_ (thn (he.run pins s σ H _ I h) fun v s1 ⟨x, H1, I1, r1, q1⟩ => ?_)
  refine wpAny_Slice (thn (po_none.run pins s1 σ H1 (fun o H2 => o = none ∧ H2 = H1) I1 ⟨rfl, rfl⟩) fun vl s2 ⟨l, H2, I2, pl, el, e2⟩ => ?_)
  subst el e2
  refine thn (po_none.run pins s2 σ H2 (fun o H3 => o = none ∧ H3 = H2) I2 ⟨rfl, rfl⟩) fun vu s3 ⟨u, H3, I3, pu, eu, e3⟩ => ?_
  subst eu e3
  rw [evalPart_some]
  refine thn (ht.run pins s3 σ H3 _ I3 q1) fun vs s4 ⟨y, H4, I4, r4, q4⟩ => ?_
  obtain ⟨a, xs, k, rfl, rfl, hk, q⟩ := q4
  cases r1
  obtain ⟨tk, rfl⟩ := r4
  have ps : IsPart (.int k tk) (some k) := .int k tk
  cases pl
  cases pu
  have I5 : Inv X pins σ H4 { s4 with heap := s4.heap.push { cls := .type "slice", data := .fields #[.none, .none, .int k tk] } } := I4.kept (t' := s4.toks) fun b ob q => Heap.get?_push_of_some _ q
  show wpAny (model X.prog X.w) X.A (subscriptTail e (.Slice none none (some t) p3) (.ref a) (.ref s4.heap.objs.size)) (EP X pins σ Q) X.xe { s4 with heap := s4.heap.push { cls := .type "slice", data := .fields #[.none, .none, .int k tk] } }
  rcases q with ⟨hx, q⟩ | ⟨hx, q⟩
  · obtain ⟨its, r, hl, hz⟩ := I5.list hx
    have hlen := r.length
    refine tail_any (ops := [.ref a, .ref s4.heap.objs.size]) hl.isList.typeIs (PySem.slot_list_getitem.lookup) ?_ (by with_unfolding_all rfl)
    refine wpAny_getItem_list_slice hl.isList (Heap.IsSliceOf.new _ .none .none (.int k tk)) .none .none ps (by intro z; cases z; omega) ?_ (by rw [List.size_toArray]; omega)
    rw [pick_step its hk]
    refine ⟨.ref _, _, I5.laid (t' := s4.toks) (o := .lst (stepL k xs)) (fun b ob q => Heap.get?_push_of_some _ q) (Nat.le_refl _) ?_, rfl, q _ (I5.hok.fresh (Nat.le_refl _))⟩
    exact ⟨Nat.le_trans (stepL_len k xs hk) hz, _, 0, stepL_vals r, Heap.get?_push_size _ rfl⟩
  · obtain ⟨its, r, hl, hz⟩ := I5.tuple hx
    have hlen := r.length
    refine tail_any (ops := [.ref a, .ref s4.heap.objs.size]) hl.typeIs (PyProof.Rows.slot_tuple_getitem.lookup) ?_ (by with_unfolding_all rfl)
    refine getItem_tuple_step hk hl (Heap.IsSliceOf.new _ .none .none (.int k tk)) ps ?_ (by omega)
    exact newT_ok I5 q (Nat.le_trans (stepL_len k xs hk) hz) (stepL_vals r)
/-! len(set(x)), x a list of tuples of ints -/
def tLenSetT (K : PySem.W.Frag) (ta : TE) : TE := fun σ H Q => ta σ H fun x H1 => ∃ (l : Addr) (ks : List (Addr × List Int)), x = V.ref l ∧ SqL K H1 l (ks.map fun p => V.ref p.1) ∧ (∀ p ∈ ks, SqT K H1 p.1 (p.2.map V.int)) ∧ ks.length < 64 ∧
  ∀ L : List (Addr × List Int), (L.map (·.2)).Nodup → (∀ p ∈ L, p ∈ ks) → (∀ p ∈ ks, p.2 ∈ L.map (·.2)) → Q (.int L.length) H1
theorem pe_lenSetT {a : Expr} {ta : TE} {p p2 q pos : Pos} (hc : X.calm = true) (hu : X.A.units + 64 < cLine) (hg : Gl X "len") (hm : X.mg "len" = none) (hg2 : Gl X "set") (hm2 : X.mg "set" = none) (ha : PE X a ta)
    (na : starEach [a] X.env = (false, eval a X.env) :: starEach [] X.env := by rfl) : PE X (.Call (.Name "len" p) [.Call (.Name "set" p2) [a] [] q] [] pos) (tLenSetT X.K ta) := by
  refine ⟨fun pins s σ H Q I h => ?_⟩
  refine Call_ (ld_blt I hg hm PySem.boot_len ?_)
  refine PyProof.Rows.callWith_builtin1 (PyProof.Rows.args_cons ?_ rfl) rfl rfl
  refine Call_ (ld_blt I hg2 hm2 PyProof.Rows.boot_set ?_)
  refine PyProof.Rows.callWith_type1 (PyProof.Rows.args_cons (thn (ha.run pins s σ H _ I h) fun v s1 ⟨x, H1, I1, r1, q1⟩ => PyProof.Rows.args_nil ?_) na) na rfl
  obtain ⟨l, ks, rfl, hl, hk, hf, q1⟩ := q1
  cases r1
  obtain ⟨its, rv, pl, hz⟩ := I1.list hl
  refine call_set_tups (P := X.prog) (w := X.w) ks (I1.ok.hd hc) pl.isList (by simpa using refs_of_vals rv) (fun p hp => I1.isT (hk p hp)) hf (by omega) fun h' tk L es ep t R g kk => ?_
  refine PyProof.Rows.args_nil ?_
  obtain ⟨o, ho, hex, hd⟩ := R.ob
  have I2 : Inv X pins σ H1 { s1 with heap := h', toks := tk } := I1.kept fun b o e => kk b o e
  have hsz := SetTR.size (s := { s1 with heap := h', toks := tk }) R
  have few := R.few
  refine call_len_set ho hex hd (SetTR.fits (s := { s1 with heap := h', toks := tk }) R) (by omega) ⟨.int L.length, H1, I2.tok _, ⟨_, by rw [hsz]⟩, q1 L R.nd (fun p hp => List.mem_of_mem_take (g.sub p hp)) fun p hp => g.all p (by rw [List.take_length]; exact hp)⟩
end
end Ev
-- EvM3
/-! x[::k], len(set(x)) -/
namespace Ev
open PySem PySem.Spec PyProof.Rows L2
section
variable {P : Pg} {g : G} {M : Nm} {N : List Str} {X : Cx} {sc so : Scope} {n : Nat}
theorem RepPs.app {H : Hp} : ∀ {ds es : List D} {vs ws : List V}, RepPs g H ds vs → RepPs g H es ws → RepPs g H (ds ++ es) (vs ++ ws)
  | [], _, _, _, .nil, s => s
  | _ :: _, _, _, _, .cons r rs, s => .cons r (rs.app s)
theorem RepPs.rev {H : Hp} : ∀ {ds : List D} {vs : List V}, RepPs g H ds vs → RepPs g H ds.reverse vs.reverse
  | [], _, .nil => .nil
  | _ :: _, _, .cons r rs => by
    rw [List.reverse_cons, List.reverse_cons]
    exact rs.rev.app (.cons r .nil)
theorem Reps.rev {ρ : List Addr} {H : Hp} : ∀ {ds : List D} {vs : List V}, Reps g ρ H ds vs → Reps g ρ H ds.reverse vs.reverse
  | [], _, .nil => .nil
  | _ :: _, _, .cons r rs => by
    rw [List.reverse_cons, List.reverse_cons]
    exact rs.rev.append (.cons r .nil)
theorem RepPs.len {H : Hp} : ∀ {ds : List D} {vs : List V}, RepPs g H ds vs → ds.length = vs.length
  | [], _, .nil => rfl
  | _ :: _, _, .cons _ rs => congrArg (· + 1) rs.len
theorem RepPs.at {H : Hp} : ∀ {ds : List D} {vs : List V} {i : Nat} {d : D}, RepPs g H ds vs → ds[i]? = some d → ∃ v, vs[i]? = some v ∧ RepP g H d v
  | _ :: _, _, 0, _, .cons r _, e => by cases e; exact ⟨_, rfl, r⟩
  | _ :: _, _, i + 1, _, .cons _ rs, e => rs.at (i := i) e
theorem RepPs.stp {H : Hp} (k : Int) {ds : List D} {vs : List V} (r : RepPs g H ds vs) : RepPs g H (stepL k ds) (stepL k vs) := by
  unfold stepL
  cases decide (k < 0) with
  | true => exact r.rev
  | false =>
    dsimp only
    rw [r.len]
    have : ∀ l : List Nat, RepPs g H (l.filterMap fun m => ds[m * k.toNat]?) (l.filterMap fun m => vs[m * k.toNat]?) := fun l => by
      induction l with
      | nil => exact .nil
      | cons m l ih =>
        rw [List.filterMap_cons, List.filterMap_cons]
        cases e : ds[m * k.toNat]? with
        | none =>
          have : vs[m * k.toNat]? = none := by
            rw [List.getElem?_eq_none_iff] at e ⊢
            rw [← r.len]; exact e
          rw [this]
          exact ih
        | some x =>
          obtain ⟨u, hu, ru⟩ := r.at e
          rw [hu]
          exact .cons ru ih
    exact this _
theorem Reps.stp {ρ : List Addr} {H : Hp} (k : Int) {ds : List D} {vs : List V} (r : Reps g ρ H ds vs) : Reps g ρ H (stepL k ds) (stepL k vs) := by
  unfold stepL
  cases decide (k < 0) with
  | true => exact r.rev
  | false =>
    dsimp only
    rw [r.length]
    have : ∀ l : List Nat, Reps g ρ H (l.filterMap fun m => ds[m * k.toNat]?) (l.filterMap fun m => vs[m * k.toNat]?) := fun l => by
      induction l with
      | nil => exact .nil
      | cons m l ih =>
        rw [List.filterMap_cons, List.filterMap_cons]
        cases e : ds[m * k.toNat]? with
        | none =>
          have : vs[m * k.toNat]? = none := by
            rw [List.getElem?_eq_none_iff] at e ⊢
            rw [← r.length]; exact e
          rw [this]
          exact ih
        | some x =>
          obtain ⟨u, hu, ru⟩ := r.get e
          rw [hu]
          exact .cons ru ih
    exact this _
theorem stp_imp {a i : I} (hK : X.K = g.K) {σ : L2.St} {H : Hp} {Q : VK} (hr : tE P g (n + 1) (.stp a i) σ H Q) : tStep X.K (tE P g n a) (tE P g n i) σ H Q := by
  obtain ⟨ρ, h, sg, sim, er, hr⟩ := hr
  refine ⟨ρ, h, sg, sim, er, Run.on (show Run g ρ H (ke Q) ((ev P n a sg h).on fun x h1 => (ev P n i sg h1).on fun y h2 => stepAt x y h2) from hr) fun d h1 ρ1 H1 x m1 s1 r1 hr1 => ?_⟩
  refine ⟨ρ1, h1, sg, s1, er.mono m1, Run.on hr1 fun e h2 ρ2 H2 y m2 s2 r2 hr2 => ?_⟩
  have r1 := r1.mono m2
  unfold stepAt at hr2
  cases e with
  | int k =>
    obtain rfl := r2.int
    dsimp only at hr2
    cases ok : stepOk k with
    | false => rw [ok] at hr2; exact (show False from hr2).elim
    | true =>
      rw [ok] at hr2
      dsimp only at hr2
      have hk := stepOk_of ok
      cases d with
      | tup ds =>
        obtain ⟨a, vs, rfl, q, rr⟩ := r1.tup
        exact ⟨a, vs, k, rfl, rfl, hk, .inr ⟨by rw [hK]; exact q.t, hr2.newTP s2 (rr.stp k)⟩⟩
      | ptr b =>
        dsimp only at hr2
        cases c : h2[b]? with
        | none => rw [c] at hr2; exact (show False from hr2).elim
        | some ds =>
          rw [c] at hr2
          obtain ⟨p, vs, rfl, _, hp, rr⟩ := s2.lst r1 c
          exact ⟨p, vs, k, rfl, rfl, hk, .inl ⟨SqL.of hp, fun p' nn => Run.newL hr2 s2 (rr.stp k) nn⟩⟩
      | _ => exact (show False from hr2).elim
  | _ => exact (show False from hr2).elim
theorem s_stp (ih : Main P g M n) (k : XOk P g M N X sc so (n + 1)) {a i : I} {e : Expr} (c : ckE M N sc (.stp a i) e = true) : PE X e (tE P g (n + 1) (.stp a i)) := by
  unfold ckE at c
  split at c
  · split at c
    · obtain ⟨c1, c2⟩ := bnd c
      exact PE.imp (pe_step (ih.mE N X sc so k.down a _ c1) (ih.mE N X sc so k.down i _ c2)) fun σ H Q hr => stp_imp k.hK hr
    · cases c
  · cases c
theorem rows_ok {ρ : List Addr} {H : Hp} : ∀ {ds : List D} {rs : List (List Int)} {vs : List V}, rowsD ds = some rs → Reps g ρ H ds vs →
    ∃ ks : List (Addr × List Int), vs = (ks.map fun p => V.ref p.1) ∧ (∀ p ∈ ks, SqT g.K H p.1 (p.2.map V.int)) ∧ ks.map (·.2) = rs
  | [], rs, _, e, .nil => by cases e; exact ⟨[], rfl, (fun _ h => by cases h), rfl⟩
  | .tup es :: ds, rs, _, e, .cons r s => by
    unfold rowsD at e
    cases e1 : intsD es with
    | none => rw [e1] at e; cases e
    | some is =>
      rw [e1] at e
      cases e2 : rowsD ds with
      | none => rw [e2] at e; cases e
      | some r2 =>
        rw [e2] at e
        cases e
        obtain ⟨ks, h1, h2, h3⟩ := rows_ok e2 s
        obtain ⟨a, ws, rfl, q, rr⟩ := r.tup
        obtain rfl := ints_ok e1 (rr.reps (ρ := ρ))
        refine ⟨(a, is) :: ks, by rw [h1]; rfl, fun p hp => ?_, by rw [← h3]; rfl⟩
        rcases List.mem_cons.mp hp with z | z
        · rw [z]; exact q.t
        · exact h2 p z
theorem nub_mem (x : List Int) : ∀ (l : List (List Int)), x ∈ nub l ↔ x ∈ l
  | [] => Iff.rfl
  | y :: l => by
    unfold nub
    cases c : (nub l).contains y with
    | true =>
      have : y ∈ nub l := by simpa using c
      dsimp only
      rw [nub_mem x l, List.mem_cons]
      constructor
      · exact .inr
      · rintro (rfl | h)
        · exact (nub_mem x l).mp this
        · exact h
    | false =>
      dsimp only
      rw [List.mem_cons, List.mem_cons, nub_mem x l]
theorem nub_nodup : ∀ (l : List (List Int)), (nub l).Nodup
  | [] => List.nodup_nil
  | y :: l => by
    unfold nub
    cases c : (nub l).contains y with
    | true => exact nub_nodup l
    | false =>
      refine List.nodup_cons.mpr ⟨fun h => ?_, nub_nodup l⟩
      have : (nub l).contains y = true := by simpa using h
      rw [c] at this
      cases this
theorem same_len {α : Type} : ∀ {l m : List α}, l.Nodup → m.Nodup → (∀ x, x ∈ l → x ∈ m) → l.length ≤ m.length
  | [], _, _, _, _ => Nat.zero_le _
  | x :: l, m, hl, hm, h => by
    obtain ⟨h1, h2⟩ := List.nodup_cons.mp hl
    obtain ⟨a, b, rfl⟩ := List.append_of_mem (h x (List.mem_cons_self ..))
    have hn : (a ++ b).Nodup := by
      refine hm.sublist ?_
      exact List.Sublist.append_left (List.sublist_cons_self x b) a
    have := same_len (m := a ++ b) h2 hn fun y hy => by
      have z := h y (List.mem_cons_of_mem _ hy)
      rcases List.mem_append.mp z with z | z
      · exact List.mem_append_left _ z
      · rcases List.mem_cons.mp z with z | z
        · rw [z] at hy; exact absurd hy h1
        · exact List.mem_append_right _ z
    simp only [List.length_append, List.length_cons] at this ⊢
    omega
theorem lset_imp {a : I} (hK : X.K = g.K) {σ : L2.St} {H : Hp} {Q : VK} (hr : tE P g (n + 1) (.lset a) σ H Q) : tLenSetT X.K (tE P g n a) σ H Q := by
  obtain ⟨ρ, h, sg, sim, er, hr⟩ := hr
  refine ⟨ρ, h, sg, sim, er, Run.on (show Run g ρ H (ke Q) ((ev P n a sg h).on fun x h1 => lsetAt x h1) from hr) fun d h1 ρ1 H1 x m1 s1 r1 hr1 => ?_⟩
  unfold lsetAt at hr1
  cases d with
  | ptr b =>
    dsimp only at hr1
    cases c : h1[b]? with
    | none => rw [c] at hr1; exact (show False from hr1).elim
    | some ds =>
      rw [c] at hr1
      dsimp only at hr1
      cases c2 : rowsD ds with
      | none => rw [c2] at hr1; exact (show False from hr1).elim
      | some rs =>
        rw [c2] at hr1
        dsimp only at hr1
        cases c3 : Nat.blt rs.length 64 with
        | false => rw [c3] at hr1; exact (show False from hr1).elim
        | true =>
          rw [c3] at hr1
          obtain ⟨p, vs, rfl, _, hp, rr⟩ := s1.lst r1 c
          obtain ⟨ks, rfl, k2, k3⟩ := rows_ok c2 rr
          have lt : ks.length < 64 := by
            have := Nat.blt_eq.mp c3
            rw [← k3, List.length_map] at this
            exact this
          refine ⟨p, ks, rfl, SqL.of hp, fun q hq => by rw [hK]; exact k2 q hq, lt, fun L nd h1 h2 => ?_⟩
          have e1 : L.length = (nub rs).length := by
            rw [← List.length_map (f := fun p : Addr × List Int => p.2)]
            refine Nat.le_antisymm (same_len nd (nub_nodup rs) fun x hx => ?_) (same_len (nub_nodup rs) nd fun x hx => ?_)
            · obtain ⟨q, hq, rfl⟩ := List.mem_map.mp hx
              rw [nub_mem, ← k3]
              exact List.mem_map.mpr ⟨q, h1 q hq, rfl⟩
            · rw [nub_mem, ← k3] at hx
              obtain ⟨q, hq, rfl⟩ := List.mem_map.mp hx
              exact h2 q hq
          rw [e1]
          exact hr1.mk s1 (.pure (.int _))
  | _ => exact (show False from hr1).elim
theorem s_lset (ih : Main P g M n) (k : XOk P g M N X sc so (n + 1)) {a : I} {e : Expr} (c : ckE M N sc (.lset a) e = true) : PE X e (tE P g (n + 1) (.lset a)) := by
  unfold ckE at c
  split at c
  · rename_i fn es ks pos
    split at c
    · split at c
      · rename_i p ks2 pos2 fn2 es2 y p2 o
        obtain ⟨c, c6⟩ := bnd c
        obtain ⟨c, c5⟩ := bnd c
        obtain ⟨c, c4⟩ := bnd c
        obtain ⟨c, c3⟩ := bnd c
        obtain ⟨c1, c2⟩ := bnd c
        obtain ⟨rfl, a1, a2, _⟩ := bltB_ok k c1
        obtain ⟨rfl, b1, b2, _⟩ := bltB_ok k c2
        have no := notb c6
        obtain ⟨st1, st2⟩ := stars1 (e := o) (es := []) (env := X.env) (pos := pos2) (by rw [List.all_cons, no]; rfl)
        cases ks with
        | cons _ _ => cases c4
        | nil =>
          cases ks2 with
          | cons _ _ => cases c5
          | nil => exact PE.imp (pe_lenSetT k.calm k.room.units a1 a2 b1 b2 (ih.mE N X sc so k.down a o c3) st1) fun σ H Q hr => lset_imp k.hK hr
      · cases c
    · cases c
  · cases c
/-! a list just made, frozen -/
def tFrz (te : TE) : TE := fun σ H Q => te σ H fun x H1 => ∃ p xs, x = V.ref p ∧ H1 p = some (.lst xs) ∧ ∀ od, Q (.ref p) (upd H1 p (.frz od (.lst xs)))
theorem pe_frz {e : Expr} {te : TE} (he : PE X e te) : PE X e (tFrz te) := by
  refine ⟨fun pins s σ H Q I h => thn (he.run pins s σ H _ I h) fun v s1 ⟨x, H1, I1, r1, q1⟩ => ?_⟩
  obtain ⟨p, xs, rfl, hp, q⟩ := q1
  obtain ⟨od, I2⟩ := I1.lock hp trivial
  exact ⟨.ref p, _, I2, r1, q od⟩
theorem mono_frz {H : Hp} {p : Addr} {vs : List V} {o : HO} (n : H p = some (.lst vs)) : MonoH g H (upd H p o) := by
  have ne : ∀ {a : Addr} {u : HO}, H a = some u → (∀ zs, u ≠ .lst zs) → a ≠ p := fun h d => fun e => by
    subst e
    rw [n] at h
    cases h
    exact d vs rfl
  refine ⟨fun a xs h => ?_, fun a xs h => ?_, fun a h => by rw [upd_ne (ne h (fun _ z => by cases z))]; exact h, fun q _ ⟨ps, h, t⟩ => ⟨ps, by rw [upd_ne (ne h (fun _ z => by cases z))]; exact h, t⟩⟩
  · rcases h with h | h
    · obtain ⟨ob, h, hd⟩ := h
      exact .inl ⟨ob, by rw [upd_ne (ne h (fun _ z => by cases z))]; exact h, hd⟩
    · exact .inr h
  · rcases h with ⟨ob, h⟩ | h
    · exact .inl ⟨ob, by rw [upd_ne (ne h (fun _ z => by cases z))]; exact h⟩
    · exact .inr h
theorem frz_at {H : Hp} {Q : VK} {ρ : List Addr} {h : Hh} (sim : Sim g ρ h H) {d : D} {h1 : Hh} (hr1 : Run g ρ H (ke Q) (frzAt h.length d h1)) {ρ1 : List Addr} {H1 : Hp} {x : V} (m1 : Mono g ρ H ρ1 H1) (s1 : Sim g ρ1 h1 H1) (r1 : Rep g ρ1 H1 d x) :
    ∃ p xs, x = V.ref p ∧ H1 p = some (.lst xs) ∧ ∀ od, Q (.ref p) (upd H1 p (.frz od (.lst xs))) := by
  unfold frzAt at hr1
  cases d with
  | ptr b =>
    dsimp only at hr1
    cases c0 : (Nat.ble h.length b && Nat.beq (b + 1) h1.length) with
    | false => rw [c0] at hr1; exact (show False from hr1).elim
    | true =>
      rw [c0] at hr1
      dsimp only at hr1
      obtain ⟨b1, b2⟩ := bnd c0
      have b1 := Nat.le_of_ble_eq_true b1
      have b2 := Nat.eq_of_beq_eq_true b2
      cases c : h1[b]? with
      | none => rw [c] at hr1; exact (show False from hr1).elim
      | some ds =>
        rw [c] at hr1
        dsimp only at hr1
        cases c2 : ds.any isPtr with
        | true => rw [c2] at hr1; exact (show False from hr1).elim
        | false =>
          rw [c2] at hr1
          obtain ⟨p, vs, rfl, pb, hp, rr⟩ := s1.lst r1 c
          have np : p ∉ ρ1.take b := fun hm => by
            obtain ⟨i, hi⟩ := List.getElem?_of_mem hm
            have il : i < b := by
              have := (List.getElem?_eq_some_iff.mp hi).1
              rw [List.length_take] at this
              omega
            have hi' := take_pf ρ1 b i p hi
            have l1 := List.getElem?_eq_some_iff.mp hi'
            have l2 := List.getElem?_eq_some_iff.mp pb
            have := (List.getElem_inj s1.nd).mp (l1.2.trans l2.2.symm)
            omega
          refine ⟨p, vs, rfl, hp, fun od => ?_⟩
          have mh : MonoH g H1 (upd H1 p (.frz od (.lst vs))) := mono_frz hp
          have s2 : Sim g (ρ1.take b) (h1.take b) (upd H1 p (.frz od (.lst vs))) := (s1.take b).grow mh fun q hq us e => by
            rw [upd_ne (fun z : q = p => np (by rw [← z]; exact hq))]; exact e
          refine hr1 (ρ1.take b) _ (.ref p) ⟨m1.h.trans mh, fun k q e => ?_, fun q o e nt nq => ?_⟩ s2 (.pure (.frl (.inl ⟨od, upd_same⟩) ((rr.toP c2).mono mh)))
          · have lk : k < b := by
              have := (List.getElem?_eq_some_iff.mp e).1
              rw [sim.len] at this
              omega
            rw [List.getElem?_take_of_lt lk]
            exact m1.pf k q e
          · obtain ⟨z1, z2⟩ := m1.ou q o e nt nq
            have : q ≠ p := fun z => z2 (by rw [z]; exact List.mem_of_getElem? pb)
            exact ⟨by rw [upd_ne this]; exact z1, fun hm => z2 (List.mem_of_mem_take hm)⟩
  | _ => exact (show False from hr1).elim
theorem frz_imp {a : I} {σ : L2.St} {H : Hp} {Q : VK} (hr : tE P g (n + 1) (.frz a) σ H Q) : tFrz (tE P g n a) σ H Q := by
  obtain ⟨ρ, h, sg, sim, er, hr⟩ := hr
  refine ⟨ρ, h, sg, sim, er, ?_⟩
  have hr : Run g ρ H (ke Q) ((ev P n a sg h).on fun x h1 => frzAt h.length x h1) := hr
  cases e0 : ev P n a sg h with
  | ok d h1 =>
    rw [e0] at hr
    have hr1 : Run g ρ H (ke Q) (frzAt h.length d h1) := hr
    intro ρ1 H1 x m1 s1 r1
    exact frz_at sim hr1 m1 s1 r1
  | _ => rw [e0] at hr; exact (show False from hr).elim
theorem s_frz (ih : Main P g M n) (k : XOk P g M N X sc so (n + 1)) {a : I} {e : Expr} (c : ckE M N sc (.frz a) e = true) : PE X e (tE P g (n + 1) (.frz a)) := by
  unfold ckE at c
  exact PE.imp (pe_frz (ih.mE N X sc so k.down a e (bnd c).2)) fun σ H Q hr => frz_imp hr
end
end Ev
-- EvN
/-! targets, iterables, comprehensions -/
namespace Ev
open PySem PySem.Spec PyProof.Rows L2
/-- the reading of a target of names -/
def gTs : I → TGs
  | .gnil => gNil
  | .gcons g r => match g with
    | .gv i => gCons (gName i) (gTs r)
    | _ => fun _ _ _ _ => False
  | _ => fun _ _ _ _ => False
def cntG : I → Nat
  | .gcons _ r => cntG r + 1
  | _ => 0
def gV (K : PySem.W.Frag) : I → TG
  | .gv i => gName i
  | .gt r => fun v σ H Q => gTup K (cntG r) (gTs r) v σ H Q ∨ gUnl K (cntG r) (gTs r) v σ H Q
  | _ => fun _ _ _ _ => False
section
variable {P : Pg} {g : G} {M : Nm} {N : List Str} {X : Cx} {sc so : Scope} {n : Nat}
theorem locC_ok (k : XOk P g M N X sc so n) {x : Str} (h : locC so x = true) : Loc X.env.scope x ∧ (X.fn x = true ∨ X.env.scope.names.lookup x = some .local) := by
  unfold locC at h
  rw [k.hsc]
  split at h
  · have := k.loc x (by assumption)
    exact ⟨.inl this, .inr this⟩
  · obtain ⟨h1, h2⟩ := k.cel x (by assumption)
    exact ⟨.inr h1, .inl h2⟩
  · cases h
theorem pg_gv (k : XOk P g M N X sc so n) {i : Nat} {e : Expr} (c : ckG M N so (.gv i) e = true) : PG X e (gName i) := by
  unfold ckG at c
  split at c
  · rename_i x pos
    obtain ⟨c1, c2⟩ := bnd c
    obtain ⟨l1, l2⟩ := locC_ok k c2
    exact pg_name (by rw [k.hN]; exact k.nd) (by rw [k.hN]; exact of_decide_eq_true c1) l1 l2
  · cases c
theorem notStarG {e : Expr} {es : List Expr} {env : Env} (h : isStar e = false) : assignEach (e :: es) env = (false, assign e env) :: assignEach es env := by
  cases e <;> first | rfl | cases h
theorem pgs_gTs (k : XOk P g M N X sc so n) (r : I) : ∀ (es : List Expr), ckGs M N so r es = true → PGs X es (gTs r) ∧ (assignEach es X.env).length = cntG r ∧ (assignEach es X.env).findIdx? (·.1) = none := by
  induction r with
  | gnil =>
    intro es c
    cases es with
    | nil => exact ⟨pgs_nil, rfl, rfl⟩
    | cons _ _ => cases c
  | gcons g1 r _ ih =>
    intro es c
    cases es with
    | nil => cases c
    | cons e es =>
      obtain ⟨c, c3⟩ := bnd (show (ckG M N so g1 e && ckGs M N so r es && !isStar e) = true from c)
      obtain ⟨c1, c2⟩ := bnd c
      have hs := notStarG (es := es) (env := X.env) (notb c3)
      obtain ⟨q1, q2, q3⟩ := ih es c2
      refine ⟨?_, by rw [hs]; exact congrArg (· + 1) q2, ?_⟩
      · cases g1 with
        | gv i => exact pgs_cons (pg_gv k c1) q1 (by rw [hs]; rfl)
        | _ => exact ⟨fun _ _ _ _ _ _ _ _ _ h => h.elim⟩
      · rw [hs, List.findIdx?_cons, q3]
        rfl
  | _ => intro es c; cases c
theorem pg_gV (k : XOk P g M N X sc so n) {tg : I} {e : Expr} (c : ckG M N so tg e = true) : PG X e (gV X.K tg) := by
  cases tg with
  | gv i => exact pg_gv k c
  | gt r =>
    unfold ckG at c
    split at c
    · rename_i es kk pos
      obtain ⟨q1, q2, q3⟩ := pgs_gTs k r es c
      refine ⟨fun pins s σ H v u Q I r hw => ?_⟩
      rcases hw with hw | hw
      · exact (pg_tup k.calm q1 q2 q3).run pins s σ H v u Q I r hw
      · exact (pg_unl k.calm q1 q2 q3).run pins s σ H v u Q I r hw
    · cases c
  | _ => exact ⟨fun _ _ _ _ _ _ _ _ _ h => (show False from h).elim⟩
/-! what a target of names does -/
theorem wipe_set {σ : L2.St} {i : Nat} {v : Option V} : ∀ {vs : List Nat}, i ∈ vs → wipe (σ.set i v) vs = wipe σ vs
  | j :: vs, h => by
    unfold wipe
    by_cases hj : i = j
    · subst hj
      by_cases hm : i ∈ vs
      · rw [wipe_set hm]
      · have : ∀ (us : List Nat) (τ : L2.St), (wipe (τ.set i v) us).set i none = (wipe τ us).set i none := fun us => by
          induction us with
          | nil => intro τ; unfold wipe; rw [List.set_set]
          | cons u us ih2 =>
            intro τ
            unfold wipe
            by_cases hu : u = i
            · subst hu
              rw [List.set_set, List.set_set]
              exact ih2 τ
            · rw [List.set_comm _ _ hu, ih2 τ, List.set_comm _ _ (Ne.symm hu)]
        exact this vs σ
    · have hm : i ∈ vs := by
        rcases List.mem_cons.mp h with e | e
        · exact absurd e hj
        · exact e
      rw [wipe_set hm]
theorem gTs_ok {ρ : List Addr} {H : Hp} {h : Hh} (own : List Nat) : ∀ (r : I) (ds : List D) (vs : List V) (sg : Sg) (σ : L2.St) (sg' : Sg) (h' : Hh) (Q : L2.St → Hp → Prop), EnvR g ρ H sg σ → Reps g ρ H ds vs → asgs r ds sg h = .nx sg' h' →
    (h' = h → ∀ σ', EnvR g ρ H sg' σ' → (gOwn own r = true → wipe σ' own = wipe σ own) → Q σ' H) → gTs r vs σ H Q ∧ vs.length = cntG r := by
  intro r
  induction r with
  | gnil =>
    intro ds vs sg σ sg' h' Q er rr e q
    cases ds with
    | cons _ _ => cases e
    | nil =>
      cases rr
      cases e
      exact ⟨⟨rfl, q rfl σ er fun _ => rfl⟩, rfl⟩
  | gcons g1 r _ ih =>
    intro ds vs sg σ sg' h' Q er rr e q
    cases g1 with
    | gv i =>
      cases ds with
      | nil => cases e
      | cons d ds =>
        cases rr with
        | cons r1 rr =>
          rename_i v vs
          have e : asgs r ds (sg.set i d) h = .nx sg' h' := e
          have z := ih ds vs (sg.set i d) (σ.set i (some v)) sg' h' Q (er.set r1) rr e fun eh σ' er' w => q eh σ' er' fun ow => by
            obtain ⟨o1, o2⟩ := bnd (show (gOwn own (.gv i) && gOwn own r) = true from ow)
            rw [w o2, wipe_set (of_decide_eq_true o1)]
          exact ⟨⟨v, vs, rfl, z.1⟩, congrArg (· + 1) z.2⟩
    | _ => cases e
  | _ => intro ds vs sg σ sg' h' Q er rr e q; cases e
theorem gV_ok {ρ : List Addr} {H : Hp} {h : Hh} (own : List Nat) {E : I → Sg → Hh → R} {tg : I} {d : D} {v : V} {sg : Sg} {σ : L2.St} {sg' : Sg} {h' : Hh} {Q : L2.St → Hp → Prop} (nx : ∀ o i, tg ≠ .gx o i) (sim : Sim g ρ h H) (er : EnvR g ρ H sg σ) (rr : Rep g ρ H d v) (e : asg E tg d sg h = .nx sg' h')
    (q : h' = h → ∀ σ', EnvR g ρ H sg' σ' → (gOwn own tg = true → wipe σ' own = wipe σ own) → Q σ' H) : gV g.K tg v σ H Q := by
  cases tg with
  | gv i =>
    cases e
    exact q rfl _ (er.set rr) fun ow => wipe_set (of_decide_eq_true ow)
  | gt r =>
    have e : (match itemsOf h d with
      | some ds => asgs r ds sg h
      | none => .no) = .nx sg' h' := e
    cases et : itemsOf h d with
    | none => rw [et] at e; cases e
    | some ds =>
      rw [et] at e
      obtain ⟨a, vs, rfl, sq, rs⟩ := items_kind sim rr et
      obtain ⟨z1, z2⟩ := gTs_ok own r ds vs sg σ sg' h' Q er rs e q
      cases c : isL d with
      | false => rw [c] at sq; exact .inl ⟨a, vs, rfl, sq, z2, z1⟩
      | true => rw [c] at sq; exact .inr ⟨a, vs, rfl, sq, z2, z1⟩
  | gx o i => exact absurd rfl (nx o i)
  | _ => cases e
end
end Ev
-- EvO
/-! iterables -/
namespace Ev
open PySem PySem.Spec PyProof.Rows L2
section
variable {P : Pg} {g : G} {M : Nm} {N : List Str} {X : Cx} {sc so : Scope} {n : Nat}
theorem isTup_ok {t : Expr} (h : isTup t = true) : ∃ es k p, t = .Tuple es k p := by
  cases t <;> first | exact ⟨_, _, _, rfl⟩ | cases h
theorem iS_imp {a : I} (hK : X.K = g.K) : ∀ σ H R, tI P g (n + 1) (.iS a) σ H R → iSq X.K (tE P g n a) σ H R := fun σ H R hr => by
  obtain ⟨ρ, h, sg, sim, er, hr⟩ := hr
  refine ⟨ρ, h, sg, sim, er, Run.on (show Run g ρ H _ ((ev P n a sg h).on fun x h1 => match itemsOf h1 x with
      | some _ => .osr (.sq x) h1
      | none => .no) from hr) fun d h1 ρ1 H1 v m1 s1 r1 hr1 => ?_⟩
  cases e : itemsOf h1 d with
  | none => rw [e] at hr1; exact (show False from hr1).elim
  | some ds =>
    rw [e] at hr1
    obtain ⟨x, vs, rfl, q, rr⟩ := items_kind s1 r1 e
    have z := hr1 ρ1 H1 (Mono.refl _ _ _) s1 _ (src_sq r1)
    rw [← hK] at q z
    refine ⟨x, rfl, ?_⟩
    cases b : isL d with
    | true => rw [b] at q z; exact .inl ⟨⟨vs, q⟩, z⟩
    | false => rw [b] at q z; exact .inr ⟨⟨vs, q⟩, z⟩
theorem iE_imp {a : I} (hK : X.K = g.K) : ∀ σ H R, tI P g (n + 1) (.iE a) σ H R → iEnK X.K (tE P g n a) σ H R := fun σ H R hr => by
  obtain ⟨ρ, h, sg, sim, er, hr⟩ := hr
  refine ⟨ρ, h, sg, sim, er, Run.on (show Run g ρ H _ ((ev P n a sg h).on fun x h1 => match itemsOf h1 x with
      | some _ => .osr (.en x) h1
      | none => .no) from hr) fun d h1 ρ1 H1 v m1 s1 r1 hr1 => ?_⟩
  cases e : itemsOf h1 d with
  | none => rw [e] at hr1; exact (show False from hr1).elim
  | some ds =>
    rw [e] at hr1
    obtain ⟨x, vs, rfl, q, rr⟩ := items_kind s1 r1 e
    have z := hr1 ρ1 H1 (Mono.refl _ _ _) s1 _ (src_en r1)
    rw [← hK] at q z
    exact ⟨isL d, x, vs, rfl, q, z⟩
theorem iZ_imp {a b : I} (hK : X.K = g.K) : ∀ σ H R, tI P g (n + 1) (.iZ a b) σ H R → iZpK X.K (tE P g n a) (tE P g n b) σ H R := fun σ H R hr => by
  obtain ⟨ρ, h, sg, sim, er, hr⟩ := hr
  refine ⟨ρ, h, sg, sim, er, Run.on (show Run g ρ H _ ((ev P n a sg h).on fun x h1 => (ev P n b sg h1).on fun y h2 => match itemsOf h2 x, itemsOf h2 y with
      | some _, some _ => .osr (.zp x y) h2
      | _, _ => .no) from hr) fun d h1 ρ1 H1 v m1 s1 r1 hr1 => ?_⟩
  refine ⟨ρ1, h1, sg, s1, er.mono m1, hr1.on fun d2 h2 ρ2 H2 v2 m2 s2 r2 hr2 => ?_⟩
  cases e : itemsOf h2 d with
  | none => rw [e] at hr2; exact (show False from hr2).elim
  | some ds =>
    cases e2 : itemsOf h2 d2 with
    | none => rw [e, e2] at hr2; exact (show False from hr2).elim
    | some ds2 =>
      rw [e, e2] at hr2
      obtain ⟨x, vs, rfl, q, rr⟩ := items_kind s2 (r1.mono m2) e
      obtain ⟨y, ws, rfl, q2, rr2⟩ := items_kind s2 r2 e2
      have z := hr2 ρ2 H2 (Mono.refl _ _ _) s2 _ (src_zp (r1.mono m2) r2)
      rw [← hK] at q q2 z
      exact ⟨isL d, isL d2, x, y, vs, ws, rfl, rfl, q, q2, z⟩
theorem blt60 {j : Int} (h : Nat.blt j.natAbs (2 ^ 60) = true) : -(2 ^ 62) ≤ j ∧ j < 2 ^ 62 := by
  have : j.natAbs < 2 ^ 60 := Nat.le_of_ble_eq_true h
  omega
def evR (ds : List D) (h1 : Hh) : R := match ds with
      | [.int j] => match Nat.blt j.natAbs (2 ^ 60) with
        | true => .osr (.rg 0 1 j.toNat) h1
        | false => .no
      | [.int i, .int j] => match Nat.blt i.natAbs (2 ^ 60) && Nat.blt j.natAbs (2 ^ 60) with
        | true => .osr (.rg i 1 (j - i).toNat) h1
        | false => .no
      | [.int i, .int j, .int c] => match Nat.blt i.natAbs (2 ^ 60) && Nat.blt j.natAbs (2 ^ 60) && decide (c = -1) with
        | true => .osr (.rg i (-1) (i - j).toNat) h1
        | false => .no
      | _ => .no
inductive RgK : List D → Src → Prop
  | one (j : Int) : -(2 ^ 62) ≤ j ∧ j < 2 ^ 62 → RgK [.int j] (.rg 0 1 j.toNat)
  | two (i j : Int) : -(2 ^ 62) ≤ i ∧ i < 2 ^ 62 → -(2 ^ 62) ≤ j ∧ j < 2 ^ 62 → RgK [.int i, .int j] (.rg i 1 (j - i).toNat)
  | three (i j : Int) : -(2 ^ 62) ≤ i ∧ i < 2 ^ 62 → -(2 ^ 62) ≤ j ∧ j < 2 ^ 62 → RgK [.int i, .int j, .int (-1)] (.rg i (-1) (i - j).toNat)
theorem evR_ok {ds : List D} {h1 : Hh} {ρ : List Addr} {H : Hp} {k : Kt} (hr : Run g ρ H k (evR ds h1)) : ∃ s, RgK ds s ∧ evR ds h1 = .osr s h1 := by
  unfold evR at hr ⊢
  split at hr
  · rename_i j
    cases e : Nat.blt j.natAbs (2 ^ 60) with
    | false => rw [e] at hr; exact (show False from hr).elim
    | true => exact ⟨_, .one j (blt60 e), by simp only [e]⟩
  · rename_i i j
    cases e : (Nat.blt i.natAbs (2 ^ 60) && Nat.blt j.natAbs (2 ^ 60)) with
    | false => rw [e] at hr; exact (show False from hr).elim
    | true =>
      obtain ⟨e1, e2⟩ := bnd e
      exact ⟨_, .two i j (blt60 e1) (blt60 e2), by simp only [e]⟩
  · rename_i i j c
    cases e : (Nat.blt i.natAbs (2 ^ 60) && Nat.blt j.natAbs (2 ^ 60) && decide (c = -1)) with
    | false => rw [e] at hr; exact (show False from hr).elim
    | true =>
      obtain ⟨e0, e3⟩ := bnd e
      obtain ⟨e1, e2⟩ := bnd e0
      obtain rfl := of_decide_eq_true e3
      exact ⟨_, .three i j (blt60 e1) (blt60 e2), by simp only [e]⟩
  · exact (show False from hr).elim
theorem ons_ok {r : R} {f : List D → Hh → R} {d : List D} {h : Hh} (e : r.ons f = .oks d h) : ∃ d1 h1, r = .oks d1 h1 ∧ f d1 h1 = .oks d h := by
  cases r with
  | oks d1 h1 => exact ⟨d1, h1, rfl, e⟩
  | _ => cases e
theorem on_oks {r : R} {f : D → Hh → R} {d : List D} {h : Hh} (e : r.on f = .oks d h) : ∃ d1 h1, r = .ok d1 h1 ∧ f d1 h1 = .oks d h := by
  cases r with
  | ok d1 h1 => exact ⟨d1, h1, rfl, e⟩
  | _ => cases e
theorem ckA_len : ∀ (n : Nat) (a : I) (es : List Expr) (sg : Sg) (h : Hh) (ds : List D) (h' : Hh), ckA M N sc a es = true → (es.all fun e => !isStar e) = true → ev P n a sg h = .oks ds h' → ds.length = es.length
  | 0, _, _, _, _, _, _, _, _, e => by cases e
  | n + 1, a, es, sg, h, ds, h', c, ns, e => by
    unfold ckA at c
    split at c
    · cases es with
      | cons _ _ => cases c
      | nil => cases e; rfl
    · split at c
      · rename_i a1 r1 _ e1 es
        obtain ⟨c, c3⟩ := bnd c
        obtain ⟨c1, c2⟩ := bnd c
        rw [List.all_cons] at ns
        obtain ⟨n1, n2⟩ := bnd ns
        obtain ⟨d1, h1, _, e⟩ := on_oks (show ((ev P n a1 sg h).on fun d h1 => (ev P n r1 sg h1).ons fun ds h2 => .oks (d :: ds) h2) = .oks ds h' from e)
        obtain ⟨d2, hh2, e2, e⟩ := ons_ok e
        cases e
        exact congrArg (· + 1) (ckA_len n r1 es sg h1 d2 _ c2 n2 e2)
      · cases c
    · split at c
      · obtain ⟨c1, c2⟩ := bnd c
        rw [List.all_cons] at ns
        obtain ⟨n1, n2⟩ := bnd ns
        split at c1
        · cases n1
        · cases c1
      · cases c
    · cases c
theorem iR_imp {a : I} {es : List Expr} (c : ckA M N sc a es = true) (ns : (es.all fun e => !isStar e) = true) : ∀ σ H R, tI P g (n + 1) (.iR a) σ H R → tA P g n a σ H fun vs H1 => ∃ (ρ1 : List Addr) (ds : List D) (s : Src), RgK ds s ∧ Reps g ρ1 H1 ds vs ∧ (∀ J, SrcIt g s J ρ1 H1 → R J H1) ∧ ds.length = es.length := fun σ H R hr => by
  obtain ⟨ρ, h, sg, sim, er, hr⟩ := hr
  have hr : Run g ρ H _ ((ev P n a sg h).ons fun ds h1 => evR ds h1) := hr
  refine ⟨ρ, h, sg, sim, er, ?_⟩
  cases e : ev P n a sg h with
  | oks ds h1 =>
    rw [e] at hr
    intro ρ1 H1 vs m1 s1 r1
    have hr1 := Run.base m1 (show Run g ρ H _ (evR ds h1) from hr)
    obtain ⟨s, k1, k2⟩ := evR_ok hr1
    rw [k2] at hr1
    exact ⟨ρ1, ds, s, k1, r1, hr1 ρ1 H1 (Mono.refl _ _ _) s1, ckA_len n a es sg h ds h1 c ns e⟩
  | _ => rw [e] at hr; exact (show False from hr).elim
theorem reps_i1 {ρ : List Addr} {H : Hp} {i : Int} {vs : List V} (r : Reps g ρ H [.int i] vs) : vs = [.int i] := by
  obtain ⟨v, rfl, r1⟩ := r.one
  rw [r1.int]
theorem reps_i2 {ρ : List Addr} {H : Hp} {i j : Int} {vs : List V} (r : Reps g ρ H [.int i, .int j] vs) : vs = [.int i, .int j] := by
  obtain ⟨v, w, rfl, r1, r2⟩ := r.two
  rw [r1.int, r2.int]
theorem reps_i3 {ρ : List Addr} {H : Hp} {i j l : Int} {vs : List V} (r : Reps g ρ H [.int i, .int j, .int l] vs) : vs = [.int i, .int j, .int l] := by
  cases r with
  | cons r1 r =>
    rw [r1.int, reps_i2 r]
theorem tA_mono {a : I} {σ : L2.St} {H : Hp} {Q Q' : List V → Hp → Prop} (h : tA P g n a σ H Q) (i : ∀ vs H1, Q vs H1 → Q' vs H1) : tA P g n a σ H Q' := by
  obtain ⟨ρ, hh, sg, sim, er, hr⟩ := h
  refine ⟨ρ, hh, sg, sim, er, ?_⟩
  cases e : ev P n a sg hh with
  | oks ds h1 =>
    rw [e] at hr
    exact fun ρ1 H1 vs m1 s1 r1 => i vs H1 (hr ρ1 H1 vs m1 s1 r1)
  | _ => rw [e] at hr; exact hr
theorem m_I (ih : Main P g M n) (k : XOk P g M N X sc so (n + 1)) (i : I) (e t : Expr) (c : ckI M N sc i e = true) (tg : tgOk i t = true) : PI X t e (tI P g (n + 1) i) := by
  unfold ckI at c
  split at c
  · rename_i a
    split at c
    · rename_i fn es ks pos
      obtain ⟨c, c6⟩ := bnd c
      obtain ⟨c, c5⟩ := bnd c
      obtain ⟨c, c4⟩ := bnd c
      obtain ⟨c, c3⟩ := bnd c
      obtain ⟨c1, c2⟩ := bnd c
      cases ks with
      | cons _ _ => cases c3
      | nil =>
        cases fn with
        | Name x p =>
          obtain ⟨rfl, g1, g2, g3⟩ := bltB_ok k c1
          have hA := ih.mA N X sc so k.down a es c2
          cases es with
          | nil => cases c6
          | cons e1 es =>
            have q1 := stars1 (env := X.env) (pos := pos) c4
            cases es with
            | nil =>
              refine PI.imp (pi_range1 g1 g2 hA q1.1) fun σ H R hr => tA_mono (iR_imp c2 c4 σ H R hr) fun vs H1 ⟨ρ1, ds, s, k1, r1, z, l⟩ => ?_
              cases k1 with
              | one j hj => exact ⟨j, reps_i1 r1, hj.1, hj.2, z _ src_rg1⟩
              | _ => cases l
            | cons e2 es =>
              have c4' : ((e2 :: es).all fun e => !isStar e) = true := by rw [List.all_cons] at c4; exact (bnd c4).2
              have q2 := stars1 (env := X.env) (pos := pos) c4'
              cases es with
              | nil =>
                refine PI.imp (pi_range2 g1 g2 hA (by rw [q1.1, q2.1]; rfl) q2.1) fun σ H R hr => tA_mono (iR_imp c2 c4 σ H R hr) fun vs H1 ⟨ρ1, ds, s, k1, r1, z, l⟩ => ?_
                cases k1 with
                | two i j hi hj => exact ⟨i, j, reps_i2 r1, ⟨hi.1, hi.2, hj.1, hj.2⟩, z _ src_rg1⟩
                | _ => cases l
              | cons e3 es =>
                cases es with
                | nil =>
                  refine PI.imp (pi_range3 g1 g2 hA q1.1 q1.2) fun σ H R hr => tA_mono (iR_imp c2 c4 σ H R hr) fun vs H1 ⟨ρ1, ds, s, k1, r1, z, l⟩ => ?_
                  cases k1 with
                  | three i j hi hj => exact ⟨i, j, -1, _, reps_i3 r1, RgC.neg hi.1 hi.2 hj.1 hj.2, z _ src_rg⟩
                  | _ => cases l
                | cons e4 es =>
                  have := of_decide_eq_true c5
                  simp only [List.length_cons] at this
                  omega
        | _ => cases c1
    · cases c
  · rename_i a
    obtain ⟨es, kk, tp, rfl⟩ := isTup_ok tg
    split at c
    · rename_i fn ls ks pos
      obtain ⟨c, c3⟩ := bnd c
      obtain ⟨c1, c2⟩ := bnd c
      cases ks with
      | cons _ _ => cases c3
      | nil =>
        cases fn with
        | Name x p =>
          obtain ⟨rfl, g1, g2, g3⟩ := bltB_ok k c1
          split at c2
          · obtain ⟨d1, d2⟩ := bnd c2
            exact PI.imp (pi_enK g1 g2 (ih.mE N X sc so k.down _ _ d1) (notb d2)) (iE_imp k.hK)
          · cases c2
        | _ => cases c1
    · cases c
  · rename_i a b
    obtain ⟨es, kk, tp, rfl⟩ := isTup_ok tg
    split at c
    · rename_i fn ls ks pos
      obtain ⟨c, c3⟩ := bnd c
      obtain ⟨c1, c2⟩ := bnd c
      cases ks with
      | cons _ _ => cases c3
      | nil =>
        cases fn with
        | Name x p =>
          obtain ⟨rfl, g1, g2, g3⟩ := bltB_ok k c1
          split at c2
          · obtain ⟨d1, d4⟩ := bnd c2
            obtain ⟨d1, d3⟩ := bnd d1
            obtain ⟨d1, d2⟩ := bnd d1
            exact PI.imp (pi_zpK g1 g2 (ih.mE N X sc so k.down _ _ d1) (ih.mE N X sc so k.down _ _ d2) (notb d3) (notb d4)) (iZ_imp k.hK)
          · cases c2
        | _ => cases c1
    · cases c
  · obtain ⟨c1, c2⟩ := bnd c
    exact PI.imp (pi_sq (ih.mE N X sc so k.down _ _ c1)) (iS_imp k.hK)
  · cases c
end
end Ev
-- EvP
/-! comprehensions -/
namespace Ev
open PySem PySem.Spec PyProof.Rows L2
section
variable {P : Pg} {g : G} {M : Nm} {N : List Str} {X : Cx} {sc so : Scope} {n : Nat}
theorem XOk.blk {scope : Scope} (k : XOk P g M N X sc so n) (hk : scope.kind = .function) (s : Shared) (H : Hp) (C : Addr) (cl : List (Str × Addr)) (fp : List Addr) :
    XOk P g M N (X.blk s H scope (compEnvC scope cl C X.env) fp) (relS scope sc) scope n := by
  have hs : (compEnvC scope cl C X.env).scope = relS scope sc := by rw [← k.hsc]; rfl
  refine ⟨k.hK, k.hN, hs, k.nd, k.calm, k.room, k.mg, fun x e => ?_, fun x e => ⟨?_, ?_⟩, hk, k.pg, k.tbs⟩
  · exact lookup_relS_keep (by decide) e
  · exact lookup_relS_keep (by decide) e
  · show (scope.names.lookup x == some NameKind.cell) = true
    rw [e]
    rfl
theorem loopC_len {s : Src} {f : D → Hh → R} : ∀ (m i : Nat) (acc : List D) (h : Hh) (ds : List D) (h' : Hh), loopC s f m i acc h = .oks ds h' → acc.length ≤ sizeLine := by
  intro m
  induction m with
  | zero => intro i acc h ds h' e; cases e
  | succ m ih =>
    intro i acc h ds h' e
    unfold loopC at e
    cases e1 : srcAt h s i with
    | none => rw [e1] at e; cases e
    | some o =>
      rw [e1] at e
      cases o with
      | none =>
        dsimp only at e
        cases e2 : Nat.ble acc.length line with
        | true => exact line_le e2
        | false => rw [e2] at e; cases e
      | some d =>
        dsimp only at e
        cases e2 : f d h with
        | ok x h1 =>
          rw [e2] at e
          have := ih (i + 1) (x :: acc) h1 ds h' e
          rw [List.length_cons] at this
          omega
        | nx sg h1 =>
          rw [e2] at e
          exact ih (i + 1) acc h1 ds h' e
        | _ => rw [e2] at e; cases e
theorem wipe_len (sg : Sg) : ∀ vs : List Nat, (wipeD sg vs).length = sg.length
  | [] => rfl
  | v :: vs => by unfold wipeD; rw [List.length_set, wipe_len sg vs]
theorem EnvR.wipe {ρ : List Addr} {H : Hp} {sg : Sg} {σ : L2.St} (er : EnvR g ρ H sg σ) : ∀ vs : List Nat, EnvR g ρ H (wipeD sg vs) (L2.wipe σ vs)
  | [] => er
  | v :: vs => by
    have q := EnvR.wipe er vs
    unfold wipeD L2.wipe
    refine ⟨by rw [List.length_set, List.length_set]; exact q.len, fun i d e u => ?_⟩
    by_cases hj : i = v
    · subst hj
      by_cases hl : i < (wipeD sg vs).length
      · rw [List.getElem?_set_self hl] at e
        cases e
        cases u
      · rw [List.getElem?_eq_none (by simpa using hl)] at e
        cases e
    · rw [List.getElem?_set_ne (Ne.symm hj)] at e
      obtain ⟨w, h1, h2⟩ := q.at_ i d e u
      exact ⟨w, by rw [List.getElem?_set_ne (Ne.symm hj)]; exact h1, h2⟩
theorem wipe_set0 {i : Nat} {v : Option V} : ∀ (us : List Nat) (τ : L2.St), (wipe (τ.set i v) us).set i none = (wipe τ us).set i none := fun us => by
  induction us with
  | nil => intro τ; unfold wipe; rw [List.set_set]
  | cons u us ih2 =>
    intro τ
    unfold wipe
    by_cases hu : u = i
    · subst hu
      rw [List.set_set, List.set_set]
      exact ih2 τ
    · rw [List.set_comm _ _ hu, ih2 τ, List.set_comm _ _ (Ne.symm hu)]
theorem wipe_wipe (σ : L2.St) : ∀ vs : List Nat, wipe (wipe σ vs) vs = wipe σ vs
  | [] => rfl
  | v :: vs => by
    show (wipe ((wipe σ vs).set v none) vs).set v none = (wipe σ vs).set v none
    rw [wipe_set0, wipe_wipe σ vs]
/-- a turn of the comprehension -/
def fLc (P : Pg) (n : Nat) (tg ifs e : I) (own : List Nat) (sg : Sg) : D → Hh → R := fun d h2 => match asg (ev P n) tg d (wipeD sg own) h2 with
        | .nx σ2 h3 => (ev P n ifs σ2 h3).onb fun k h4 => match k with
          | true => (ev P n e σ2 h4).on fun x h5 => .ok x h5
          | false => .nx σ2 h4
        | _ => .no
/-- the tests of a clause -/
def tIf (P : Pg) (g : G) (n : Nat) (ifs : I) (fs : List Expr) : TT := match fs with
  | [] => tYes
  | _ => tT P g n ifs
theorem lc_imp {scope : Scope} {tg it ifs v : I} {own : List Nat} {fs : List Expr} (ngx : ∀ o i, tg ≠ .gx o i) (ow : gOwn own tg = true) (hK : X.K = g.K)
    (hf : fs = [] → ifs = .cst (.bl true)) : ∀ σ H Q, tE P g (n + 1) (.lc tg it ifs v own) σ H Q → tLc (tI P g n it) (gV X.K tg) (tIf P g n ifs fs) (tE P g n v) own σ H Q := fun σ H Q hr => by
  obtain ⟨ρ, h, sg, sim, er, hr⟩ := hr
  refine ⟨ρ, h, sg, sim, er, Run.onsr (show Run g ρ H (ke Q) ((ev P n it sg h).onsr fun s h1 => (loopC s (fLc P n tg ifs v own sg) turns 0 [] h1).ons fun ds h2 => newL h2 ds) from hr) fun s h1 ρ1 H1 m1 s1 hr1 => fun J hJ D hD => ?_⟩
  let W : Nat → Nat → Hp → Prop := fun i m H2 => ∃ (ρ2 : List Addr) (h2 : Hh) (acc : List Ev.D) (av : List V), Mono g ρ1 H1 ρ2 H2 ∧ Sim g ρ2 h2 H2 ∧ D ∉ ρ2 ∧ H2 D = some (.lst av) ∧ Reps g ρ2 H2 acc.reverse av ∧
    Run g ρ1 H1 (ke Q) ((loopC s (fLc P n tg ifs v own sg) m i acc h2).ons fun ds h3 => newL h3 ds)
  have nD : D ∉ ρ1 := fun hm => by
    obtain ⟨a, ha⟩ := List.getElem?_of_mem hm
    obtain ⟨ds, vs, _, e2, _⟩ := sim_at s1 ha
    rw [hD] at e2
    cases e2
  refine ⟨W, ⟨turns, ρ1, h1, [], [], Mono.new hD, s1.new hD, nD, upd_same, .nil, hr1⟩, ?_⟩
  rintro i m H2 ⟨ρ2, h2, acc, av, m2, s2, n2, e2, r2, hr2⟩
  cases m with
  | zero => exact (show False from hr2).elim
  | succ m =>
    have hr2 : Run g ρ1 H1 (ke Q) ((match srcAt h2 s i with
      | some (some d) => match fLc P n tg ifs v own sg d h2 with
        | .ok x h' => loopC s (fLc P n tg ifs v own sg) m (i + 1) (x :: acc) h'
        | .nx _ h' => loopC s (fLc P n tg ifs v own sg) m (i + 1) acc h'
        | _ => .no
      | some none => match Nat.ble acc.length line with
        | true => .oks acc.reverse h2
        | false => .no
      | none => .no).ons fun ds h3 => newL h3 ds) := hr2
    obtain ⟨j1, j2⟩ := hJ ρ2 h2 H2 i m2.m0 s2
    cases e3 : srcAt h2 s i with
    | none => rw [e3] at hr2; exact (show False from hr2).elim
    | some o =>
      rw [e3] at hr2
      cases o with
      | none =>
        left
        refine ⟨j1 e3, ?_⟩
        dsimp only at hr2
        cases e4 : Nat.ble acc.length line with
        | false => rw [e4] at hr2; exact (show False from hr2).elim
        | true =>
          rw [e4] at hr2
          have hr2 : Run g ρ1 H1 (ke Q) (newL h2 acc.reverse) := hr2
          obtain ⟨s3, e5⟩ := s2.adopt e2 n2 r2
          exact hr2 (ρ2 ++ [D]) H2 (.ref D) ⟨m2.h, fun a p e => by
            have := m2.pf a p e
            rw [List.getElem?_append_left (List.getElem?_eq_some_iff.mp this).1]
            exact this, fun p o hp nt np => by
              obtain ⟨q1, q2⟩ := m2.ou p o hp nt np
              refine ⟨q1, fun hm => ?_⟩
              rcases List.mem_append.mp hm with hm | hm
              · exact q2 hm
              · simp at hm
                subst hm
                rw [hD] at hp
                cases hp⟩ s3 (.ptr e5)
      | some d =>
        right
        dsimp only at hr2
        obtain ⟨go, yld⟩ := j2 d e3
        refine ⟨go, fun H' => W (i + 1) m H', fun H' w => ⟨m, Nat.lt_succ_self m, w⟩, fun x H' y => ?_⟩
        obtain ⟨m3, s3, r3⟩ := yld x H' y
        have er3 := ((er.mono m1).mono (m2.trans m3)).wipe own
        obtain ⟨e6, n6⟩ := m3.ou D _ e2 (fun _ z => by cases z) n2
        have goes : ∀ (av' : List V) (acc' : List Ev.D) (ρ4 : List Addr) (H4 : Hp) (h4 : Hh), Mono g ρ2 H2 ρ4 H4 → Sim g ρ4 h4 H4 → D ∉ ρ4 → ∀ H5, (H5 = H4 ∧ H4 D = some (.lst av') ∨ H5 = upd H4 D (.lst av')) → (∃ us, H4 D = some (.lst us)) → Reps g ρ4 H4 acc'.reverse av' →
            Run g ρ1 H1 (ke Q) ((loopC s (fLc P n tg ifs v own sg) m (i + 1) acc' h4).ons fun ds h3 => newL h3 ds) → W (i + 1) m H5 := by
          intro av' acc' ρ4 H4 h4 m4 s4 n4 H5 hh ⟨us, hus⟩ rr q
          rcases hh with ⟨rfl, hd⟩ | rfl
          · exact ⟨ρ4, h4, acc', av', m2.trans m4, s4, n4, hd, rr, q⟩
          · have mm := m2.trans m4
            refine ⟨ρ4, h4, acc', av', ⟨mm.h.trans (mono_lst hus), mm.pf, fun p o hp nt np => ?_⟩, s4.beside hus n4, n4, upd_same, rr.monoH (mono_lst hus), q⟩
            obtain ⟨q1, q2⟩ := mm.ou p o hp nt np
            exact ⟨by rw [upd_ne (fun z : p = D => by subst z; rw [hD] at hp; cases hp)]; exact q1, q2⟩
        have hq : Run g ρ1 H1 (ke Q) ((match (match asg (ev P n) tg d (wipeD sg own) h2 with
            | .nx σ2 h3 => (ev P n ifs σ2 h3).onb fun k h4 => match k with
              | true => (ev P n v σ2 h4).on fun x h5 => .ok x h5
              | false => .nx σ2 h4
            | _ => .no) with
          | .ok x h' => loopC s (fLc P n tg ifs v own sg) m (i + 1) (x :: acc) h'
          | .nx _ h' => loopC s (fLc P n tg ifs v own sg) m (i + 1) acc h'
          | _ => .no).ons fun ds h3 => newL h3 ds) := hr2
        clear hr2
        cases e4 : asg (ev P n) tg d (wipeD sg own) h2 with
        | nx sg' h2' =>
          rw [e4] at hq
          dsimp only at hq
          rw [hK]
          refine gV_ok own ngx s3 er3 r3 e4 fun eh σ' er' ww => ⟨(ww ow).trans (wipe_wipe σ own), ?_⟩
          subst eh
          -- the rest of the turn, behind its test
          have rest : ∀ (b : Bool) (ρ4 : List Addr) (H4 : Hp) (h4 : Hh), Mono g ρ2 H2 ρ4 H4 → Sim g ρ4 h4 H4 → D ∉ ρ4 → H4 D = some (.lst av) → EnvR g ρ4 H4 sg' σ' → Reps g ρ4 H4 acc.reverse av →
              Run g ρ1 H1 (ke Q) ((match (match b with | true => (ev P n v sg' h4).on fun x h5 => .ok x h5 | false => .nx sg' h4) with
                | .ok x h' => loopC s (fLc P n tg ifs v own sg) m (i + 1) (x :: acc) h'
                | .nx _ h' => loopC s (fLc P n tg ifs v own sg) m (i + 1) acc h'
                | _ => .no).ons fun ds h3 => newL h3 ds) →
              (if b = true then tE P g n v σ' H4 (fun y H5 => ∃ ac, H5 D = some (.lst ac) ∧ ac.length < sizeLine ∧ W (i + 1) m (upd H5 D (.lst (ac ++ [y])))) else W (i + 1) m H4) := by
            intro b ρ4 H4 h4 m4 s4 n4 e7 er4 r4 q
            cases b with
            | false =>
              rw [if_neg Bool.false_ne_true]
              exact goes av acc ρ4 H4 h4 m4 s4 n4 H4 (.inl ⟨rfl, e7⟩) ⟨av, e7⟩ r4 q
            | true =>
              rw [if_pos rfl]
              refine ⟨ρ4, h4, sg', s4, er4, ?_⟩
              dsimp only at q
              cases e8 : ev P n v sg' h4 with
              | ok x h5 =>
                rw [e8] at q
                have q : Run g ρ1 H1 (ke Q) ((loopC s (fLc P n tg ifs v own sg) m (i + 1) (x :: acc) h5).ons fun ds h3 => newL h3 ds) := q
                intro ρ5 H5 y m5 s5 r5
                obtain ⟨e9, n5⟩ := m5.ou D _ e7 (fun _ z => by cases z) n4
                refine ⟨av, e9, ?_, goes (av ++ [y]) (x :: acc) ρ5 H5 h5 (m4.trans m5) s5 n5 _ (.inr rfl) ⟨av, e9⟩ ?_ q⟩
                · cases e10 : loopC s (fLc P n tg ifs v own sg) m (i + 1) (x :: acc) h5 with
                  | oks ds h6 =>
                    have l := loopC_len _ _ _ _ _ _ e10
                    have l2 := (r4.mono m5).length
                    rw [List.length_reverse] at l2
                    rw [List.length_cons] at l
                    omega
                  | _ => rw [e10] at q; exact (show False from q).elim
                · rw [List.reverse_cons]
                  exact (r4.mono m5).append (.cons r5 .nil)
              | _ => rw [e8] at q; exact (show False from q).elim
          have test : ∀ (h4 : Hh) (c : Ev.D), ev P n ifs sg' h2' = .ok c h4 → ∃ b, tru h4 c = some b ∧ Run g ρ1 H1 (ke Q) ((match (match b with | true => (ev P n v sg' h4).on fun x h5 => .ok x h5 | false => .nx sg' h4) with
                | .ok x h' => loopC s (fLc P n tg ifs v own sg) m (i + 1) (x :: acc) h'
                | .nx _ h' => loopC s (fLc P n tg ifs v own sg) m (i + 1) acc h'
                | _ => .no).ons fun ds h3 => newL h3 ds) := by
            intro h4 c e5
            rw [e5] at hq
            have hq : Run g ρ1 H1 (ke Q) ((match (match tru h4 c with
              | some b => (match b with | true => (ev P n v sg' h4).on fun x h5 => .ok x h5 | false => .nx sg' h4)
              | none => .no) with
                | .ok x h' => loopC s (fLc P n tg ifs v own sg) m (i + 1) (x :: acc) h'
                | .nx _ h' => loopC s (fLc P n tg ifs v own sg) m (i + 1) acc h'
                | _ => .no).ons fun ds h3 => newL h3 ds) := hq
            cases e6 : tru h4 c with
            | none => rw [e6] at hq; exact (show False from hq).elim
            | some b => rw [e6] at hq; exact ⟨b, rfl, hq⟩
          cases fs with
          | nil =>
            cases n with
            | zero => exact (show False from hq).elim
            | succ n =>
              obtain ⟨b, e5, q⟩ := test h2' (.bl true) (by rw [hf rfl]; rfl)
              cases e5
              exact rest true ρ2 H' h2' m3 s3 n6 e6 er' (r2.mono m3) q
          | cons f fs =>
            refine ⟨ρ2, h2', sg', s3, er', ?_⟩
            cases e5 : ev P n ifs sg' h2' with
            | ok c h4 =>
              obtain ⟨b, e7, q⟩ := test h4 c e5
              refine ⟨b, e7, fun ρ4 H4 m4 s4 _ => ?_⟩
              obtain ⟨e9, n5⟩ := m4.ou D _ e6 (fun _ z => by cases z) n6
              exact rest b ρ4 H4 h4 (m3.trans m4) s4 n5 e9 (er'.mono m4) ((r2.mono m3).mono m4) q
            | _ => rw [e5] at hq; exact (show False from hq).elim
        | _ => rw [e4] at hq; exact (show False from hq).elim
theorem foldNot {e : Expr} {env : Env} {x : Value} (h : isSet e = false) : foldedSetIterable e env x = pure x := by
  cases e <;> first | rfl | cases h
theorem lc_parts (ih : Main P g M n) (k : XOk P g M N X sc so (n + 1)) {tg it ifs v : I} {own : List Nat} {e : Expr} (c : ckE M N sc (.lc tg it ifs v own) e = true) {C : Prop}
    (f : ∀ (elt t iter : Expr) (fs : List Expr) (scope : Scope) (pos : Pos) (ow : List (Str × Nat)), e = .ListComp elt [⟨t, iter, fs, 0⟩] scope pos → PI X t iter (tI P g n it) → BlkOk X.N X.env.scope scope ow →
      (∀ (s : Shared) (H : Hp) (C : Addr) (cl : List (Str × Addr)) (fp : List Addr), PG (X.blk s H scope (compEnvC scope cl C X.env) fp) t (gV X.K tg)) →
      (∀ (s : Shared) (H : Hp) (C : Addr) (cl : List (Str × Addr)) (fp : List Addr), PTs (X.blk s H scope (compEnvC scope cl C X.env) fp) fs (tIf P g n ifs fs)) →
      (∀ (s : Shared) (H : Hp) (C : Addr) (cl : List (Str × Addr)) (fp : List Addr), PE (X.blk s H scope (compEnvC scope cl C X.env) fp) elt (tE P g n v)) →
      (∀ x, foldedSetIterable iter X.env x = pure x) →
      (∀ σ H Q, tE P g (n + 1) (.lc tg it ifs v own) σ H Q → tLc (tI P g n it) (gV X.K tg) (tIf P g n ifs fs) (tE P g n v) (ow.map (·.2)) σ H Q) → C) : C := by
  unfold ckE at c
  split at c
  · rename_i elt gs scope pos
    split at c
    · rename_i t iter fs as
      obtain ⟨c, c10⟩ := bnd c
      obtain ⟨c, c9⟩ := bnd c
      obtain ⟨c, c8⟩ := bnd c
      obtain ⟨c, c7⟩ := bnd c
      obtain ⟨c, c6⟩ := bnd c
      obtain ⟨c, c5⟩ := bnd c
      obtain ⟨c, c4⟩ := bnd c
      obtain ⟨c, c3⟩ := bnd c
      obtain ⟨c1, c2⟩ := bnd c
      obtain rfl := of_decide_eq_true c1
      have kd : scope.kind = .function := (blkOk_by c3).kind
      have kb := fun (s : Shared) (H : Hp) (C : Addr) (cl : List (Str × Addr)) (fp : List Addr) => k.down.blk kd s H C cl fp
      have ngx : ∀ o i, tg ≠ .gx o i := fun o i e => by subst e; cases c8
      have hown : (own.map fun k => (N.getD k "", k)).map (·.2) = own := by
        rw [List.map_map]
        exact List.map_id' own
      have hf : fs = [] → ifs = .cst (.bl true) := fun e => by
        subst e
        split at c6
        · split at c6
          · rfl
          · cases c6
        · rename_i hh; cases hh
        · rename_i hh _; exact absurd rfl hh
      have ht : ∀ (s : Shared) (H : Hp) (C : Addr) (cl : List (Str × Addr)) (fp : List Addr), PTs (X.blk s H scope (compEnvC scope cl C X.env) fp) fs (tIf P g n ifs fs) := fun s H C cl fp => by
        cases fs with
        | nil => exact pts_nil
        | cons f fs =>
          cases fs with
          | nil => exact pts_one (ih.mT N _ _ _ (kb s H C cl fp) ifs _ c6)
          | cons _ _ => cases c6
      refine f elt t iter fs scope pos _ rfl (ih.mI N X sc so k.down it iter t c2 c10) (blkOk_by (by rw [k.hN, k.hsc]; exact c3)) (fun s H C cl fp => pg_gV (kb s H C cl fp) c4) ht (fun s H C cl fp => ih.mE N _ _ _ (kb s H C cl fp) v elt c7) (fun x => foldNot (notb c9)) ?_
      rw [hown]
      exact lc_imp (scope := scope) ngx c8 k.hK hf
    · cases c
  · cases c
theorem s_lc (ih : Main P g M n) (k : XOk P g M N X sc so (n + 1)) {tg it ifs v : I} {own : List Nat} {e : Expr} (c : ckE M N sc (.lc tg it ifs v own) e = true) : PE X e (tE P g (n + 1) (.lc tg it ifs v own)) :=
  lc_parts ih k c fun elt t iter fs scope pos ow e hi ok hg ht he hs imp => by
    subst e
    exact PE.imp (pe_lc k.calm (by rw [k.hN]; exact k.nd) hi ok hg ht he hs) imp
end
end Ev
-- EvP2
/-! comprehensions with two loops -/
namespace Ev
open PySem PySem.Spec PyProof.Rows L2
section
variable {P : Pg} {g : G} {M : Nm} {N : List Str} {X : Cx} {sc so : Scope} {n : Nat}
theorem loopA_len {s : Src} {f : D → Hh → R} : ∀ (m i : Nat) (acc : List D) (h : Hh) (ds : List D) (h' : Hh), loopA s f m i acc h = .oks ds h' → acc.length ≤ ds.length := by
  intro m
  induction m with
  | zero => intro i acc h ds h' e; cases e
  | succ m ih =>
    intro i acc h ds h' e
    unfold loopA at e
    cases e1 : srcAt h s i with
    | none => rw [e1] at e; cases e
    | some o =>
      rw [e1] at e
      cases o with
      | none => cases e; exact Nat.le_refl _
      | some d =>
        dsimp only at e
        cases e2 : f d h with
        | ok x h1 =>
          rw [e2] at e
          have := ih (i + 1) (x :: acc) h1 ds h' e
          rw [List.length_cons] at this
          omega
        | nx sg h1 =>
          rw [e2] at e
          exact ih (i + 1) acc h1 ds h' e
        | _ => rw [e2] at e; cases e
theorem loopB_len {s : Src} {F : D → List D → Hh → R} (hF : ∀ d acc h acc' h', F d acc h = .oks acc' h' → acc.length ≤ acc'.length) : ∀ (m i : Nat) (acc : List D) (h : Hh) (ds : List D) (h' : Hh), loopB s F m i acc h = .oks ds h' → acc.length ≤ sizeLine := by
  intro m
  induction m with
  | zero => intro i acc h ds h' e; cases e
  | succ m ih =>
    intro i acc h ds h' e
    unfold loopB at e
    cases e1 : srcAt h s i with
    | none => rw [e1] at e; cases e
    | some o =>
      rw [e1] at e
      cases o with
      | none =>
        dsimp only at e
        cases e2 : Nat.ble acc.length line with
        | true => exact line_le e2
        | false => rw [e2] at e; cases e
      | some d =>
        dsimp only at e
        cases e2 : F d acc h with
        | oks acc' h1 =>
          rw [e2] at e
          exact Nat.le_trans (hF _ _ _ _ _ e2) (ih (i + 1) acc' h1 ds h' e)
        | _ => rw [e2] at e; cases e
def fOut (P : Pg) (n : Nat) (tg tg1 it1 ifs e : I) (own own1 : List Nat) (sg : Sg) : D → List D → Hh → R := fun d acc h2 => match asg (ev P n) tg d (wipeD sg own) h2 with
  | .nx σ2 h3 => (ev P n it1 σ2 h3).onsr fun s1 h4 => loopA s1 (fLc P n tg1 ifs e own1 σ2) turns 0 acc h4
  | _ => .no
theorem fOut_len {tg tg1 it1 ifs e : I} {own own1 : List Nat} {sg : Sg} (d : D) (acc : List D) (h : Hh) (acc' : List D) (h' : Hh) (q : fOut P n tg tg1 it1 ifs e own own1 sg d acc h = .oks acc' h') : acc.length ≤ acc'.length := by
  unfold fOut at q
  split at q
  · rename_i σ2 h3 _
    cases e1 : ev P n it1 σ2 h3 with
    | osr s1 h4 => rw [e1] at q; exact loopA_len _ _ _ _ _ _ q
    | _ => rw [e1] at q; cases q
  · cases q
theorem ons_match {r : R} {f : List D → Hh → R} {k : List D → Hh → R} : (match r with | .oks a h => f a h | _ => R.no).ons k = r.ons fun a h => (f a h).ons k := by cases r <;> rfl
/-- the inner loop -/
theorem inner_imp {tg1 it1 ifs v : I} {own1 : List Nat} {fs : List Expr} (ngx : ∀ o i, tg1 ≠ .gx o i) (ow : gOwn own1 tg1 = true) (hK : X.K = g.K) (hf : fs = [] → ifs = .cst (.bl true))
    {ρ1 : List Addr} {H1 : Hp} {Q : VK} {D : Addr} {C : List Ev.D → Hh → R} {Nx : Hp → Prop} (hD : H1 D = none) (hC : ∀ acc h, Run g ρ1 H1 (ke Q) (C acc h) → acc.length ≤ sizeLine)
    (nxt : ∀ (ρ4 : List Addr) (H4 : Hp) (h4 : Hh) (acc : List Ev.D) (av : List V), Mono g ρ1 H1 ρ4 H4 → Sim g ρ4 h4 H4 → D ∉ ρ4 → H4 D = some (.lst av) → Reps g ρ4 H4 acc.reverse av → Run g ρ1 H1 (ke Q) (C acc h4) → Nx H4)
    {ρ3 : List Addr} {H3 : Hp} {h3 : Hh} {sg : Sg} {σ : L2.St} {acc : List Ev.D} {av : List V} (m3 : Mono g ρ1 H1 ρ3 H3) (s3 : Sim g ρ3 h3 H3) (n3 : D ∉ ρ3) (e3 : H3 D = some (.lst av)) (er : EnvR g ρ3 H3 sg σ) (r3 : Reps g ρ3 H3 acc.reverse av)
    (hr : Run g ρ1 H1 (ke Q) (((ev P n it1 sg h3).onsr fun s1 h4 => loopA s1 (fLc P n tg1 ifs v own1 sg) turns 0 acc h4).ons C)) :
    tI P g n it1 σ H3 (fun J1 H4 => ∃ W1 : Nat → Nat → Hp → Prop, (∃ m, W1 0 m H4) ∧ ∀ j k H, W1 j k H → (J1.stop j H ∧ Nx H) ∨ (J1.go j H ∧ ∃ Nx1 : Hp → Prop, (∀ H', Nx1 H' → ∃ k', k' < k ∧ W1 (j + 1) k' H') ∧
      ∀ x H', J1.yld j H x H' → gV X.K tg1 x (wipe σ own1) H' fun σ3 H5 => wipe σ3 own1 = wipe σ own1 ∧ tIf P g n ifs fs σ3 H5 fun b H6 => if b = true then tE P g n v σ3 H6 fun y H7 => ∃ ac, H7 D = some (.lst ac) ∧ ac.length < sizeLine ∧ Nx1 (upd H7 D (.lst (ac ++ [y]))) else Nx1 H6)) := by
  refine ⟨ρ3, h3, sg, s3, er, ?_⟩
  cases e0 : ev P n it1 sg h3 with
  | osr s1 h4 =>
    rw [e0] at hr
    intro ρ4 H4 m4 s4 J1 hJ1
    have hr : Run g ρ1 H1 (ke Q) ((loopA s1 (fLc P n tg1 ifs v own1 sg) turns 0 acc h4).ons C) := hr
    let W1 : Nat → Nat → Hp → Prop := fun j k H => ∃ (ρ5 : List Addr) (h5 : Hh) (acc : List Ev.D) (av : List V), Mon0 g ρ4 H4 ρ5 H ∧ Mono g ρ1 H1 ρ5 H ∧ Sim g ρ5 h5 H ∧ D ∉ ρ5 ∧ H D = some (.lst av) ∧ Reps g ρ5 H acc.reverse av ∧
      Run g ρ1 H1 (ke Q) ((loopA s1 (fLc P n tg1 ifs v own1 sg) k j acc h5).ons C)
    obtain ⟨e4, n4⟩ := m4.ou D _ e3 (fun _ z => by cases z) n3
    refine ⟨W1, ⟨turns, ρ4, h4, acc, av, (Mono.refl _ _ _).m0, m3.trans m4, s4, n4, e4, r3.mono m4, hr⟩, ?_⟩
    rintro i m H2 ⟨ρ2, h2, acc, av, m2, m12, s2, n2, e2, r2, hr2⟩
    cases m with
    | zero => exact (show False from hr2).elim
    | succ m =>
      have hr2 : Run g ρ1 H1 (ke Q) ((match srcAt h2 s1 i with
        | some (some d) => match fLc P n tg1 ifs v own1 sg d h2 with
          | .ok x h' => loopA s1 (fLc P n tg1 ifs v own1 sg) m (i + 1) (x :: acc) h'
          | .nx _ h' => loopA s1 (fLc P n tg1 ifs v own1 sg) m (i + 1) acc h'
          | _ => .no
        | some none => .oks acc h2
        | none => .no).ons C) := hr2
      obtain ⟨j1, j2⟩ := hJ1 ρ2 h2 H2 i m2 s2
      cases e3 : srcAt h2 s1 i with
      | none => rw [e3] at hr2; exact (show False from hr2).elim
      | some o =>
        rw [e3] at hr2
        cases o with
        | none =>
          left
          exact ⟨j1 e3, nxt ρ2 H2 h2 acc av m12 s2 n2 e2 r2 hr2⟩
        | some d =>
          right
          dsimp only at hr2
          obtain ⟨go, yld⟩ := j2 d e3
          refine ⟨go, fun H' => W1 (i + 1) m H', fun H' w => ⟨m, Nat.lt_succ_self m, w⟩, fun x H' y => ?_⟩
          obtain ⟨m3', s3', r3'⟩ := yld x H' y
          have er3 := ((er.mono m4).mono0 (m2.trans m3'.m0)).wipe own1
          obtain ⟨e6, n6⟩ := m3'.ou D _ e2 (fun _ z => by cases z) n2
          have goes : ∀ (av' : List V) (acc' : List Ev.D) (ρ6 : List Addr) (H6 : Hp) (h6 : Hh), Mono g ρ2 H2 ρ6 H6 → Sim g ρ6 h6 H6 → D ∉ ρ6 → ∀ H7, (H7 = H6 ∧ H6 D = some (.lst av') ∨ H7 = upd H6 D (.lst av')) → (∃ us, H6 D = some (.lst us)) → Reps g ρ6 H6 acc'.reverse av' →
              Run g ρ1 H1 (ke Q) ((loopA s1 (fLc P n tg1 ifs v own1 sg) m (i + 1) acc' h6).ons C) → W1 (i + 1) m H7 := by
            intro av' acc' ρ6 H6 h6 m6 s6 n6 H7 hh ⟨us, hus⟩ rr q
            rcases hh with ⟨rfl, hd⟩ | rfl
            · exact ⟨ρ6, h6, acc', av', m2.trans m6.m0, m12.trans m6, s6, n6, hd, rr, q⟩
            · have mm := m12.trans m6
              refine ⟨ρ6, h6, acc', av', m2.trans ⟨m6.h.trans (mono_lst hus), m6.pf⟩, ⟨mm.h.trans (mono_lst hus), mm.pf, fun p o hp nt np => ?_⟩, s6.beside hus n6, n6, upd_same, rr.monoH (mono_lst hus), q⟩
              obtain ⟨q1, q2⟩ := mm.ou p o hp nt np
              exact ⟨by rw [upd_ne (fun z : p = D => by subst z; rw [hD] at hp; cases hp)]; exact q1, q2⟩
          have hq : Run g ρ1 H1 (ke Q) ((match (match asg (ev P n) tg1 d (wipeD sg own1) h2 with
              | .nx σ2 h3 => (ev P n ifs σ2 h3).onb fun k h4 => match k with
                | true => (ev P n v σ2 h4).on fun x h5 => .ok x h5
                | false => .nx σ2 h4
              | _ => .no) with
            | .ok x h' => loopA s1 (fLc P n tg1 ifs v own1 sg) m (i + 1) (x :: acc) h'
            | .nx _ h' => loopA s1 (fLc P n tg1 ifs v own1 sg) m (i + 1) acc h'
            | _ => .no).ons C) := hr2
          clear hr2
          cases e4 : asg (ev P n) tg1 d (wipeD sg own1) h2 with
          | nx sg' h2' =>
            rw [e4] at hq
            dsimp only at hq
            rw [hK]
            refine gV_ok own1 ngx s3' er3 r3' e4 fun eh σ' er' ww => ⟨(ww ow).trans (wipe_wipe σ own1), ?_⟩
            subst eh
            have rest : ∀ (b : Bool) (ρ4 : List Addr) (H4 : Hp) (h4 : Hh), Mono g ρ2 H2 ρ4 H4 → Sim g ρ4 h4 H4 → D ∉ ρ4 → H4 D = some (.lst av) → EnvR g ρ4 H4 sg' σ' → Reps g ρ4 H4 acc.reverse av →
                Run g ρ1 H1 (ke Q) ((match (match b with | true => (ev P n v sg' h4).on fun x h5 => .ok x h5 | false => .nx sg' h4) with
                  | .ok x h' => loopA s1 (fLc P n tg1 ifs v own1 sg) m (i + 1) (x :: acc) h'
                  | .nx _ h' => loopA s1 (fLc P n tg1 ifs v own1 sg) m (i + 1) acc h'
                  | _ => .no).ons C) →
                (if b = true then tE P g n v σ' H4 (fun y H5 => ∃ ac, H5 D = some (.lst ac) ∧ ac.length < sizeLine ∧ W1 (i + 1) m (upd H5 D (.lst (ac ++ [y])))) else W1 (i + 1) m H4) := by
              intro b ρ4 H4 h4 m4 s4 n4 e7 er4 r4 q
              cases b with
              | false =>
                rw [if_neg Bool.false_ne_true]
                exact goes av acc ρ4 H4 h4 m4 s4 n4 H4 (.inl ⟨rfl, e7⟩) ⟨av, e7⟩ r4 q
              | true =>
                rw [if_pos rfl]
                refine ⟨ρ4, h4, sg', s4, er4, ?_⟩
                dsimp only at q
                cases e8 : ev P n v sg' h4 with
                | ok x h5 =>
                  rw [e8] at q
                  have q : Run g ρ1 H1 (ke Q) ((loopA s1 (fLc P n tg1 ifs v own1 sg) m (i + 1) (x :: acc) h5).ons C) := q
                  intro ρ5 H5 y m5 s5 r5
                  obtain ⟨e9, n5⟩ := m5.ou D _ e7 (fun _ z => by cases z) n4
                  refine ⟨av, e9, ?_, goes (av ++ [y]) (x :: acc) ρ5 H5 h5 (m4.trans m5) s5 n5 _ (.inr rfl) ⟨av, e9⟩ ?_ q⟩
                  · cases e10 : loopA s1 (fLc P n tg1 ifs v own1 sg) m (i + 1) (x :: acc) h5 with
                    | oks ds h6 =>
                      rw [e10] at q
                      have l0 := hC ds h6 q
                      have l := loopA_len _ _ _ _ _ _ e10
                      have l2 := (r4.mono m5).length
                      rw [List.length_reverse] at l2
                      rw [List.length_cons] at l
                      omega
                    | _ => rw [e10] at q; exact (show False from q).elim
                  · rw [List.reverse_cons]
                    exact (r4.mono m5).append (.cons r5 .nil)
                | _ => rw [e8] at q; exact (show False from q).elim
            have test : ∀ (h4 : Hh) (c : Ev.D), ev P n ifs sg' h2' = .ok c h4 → ∃ b, tru h4 c = some b ∧ Run g ρ1 H1 (ke Q) ((match (match b with | true => (ev P n v sg' h4).on fun x h5 => .ok x h5 | false => .nx sg' h4) with
                  | .ok x h' => loopA s1 (fLc P n tg1 ifs v own1 sg) m (i + 1) (x :: acc) h'
                  | .nx _ h' => loopA s1 (fLc P n tg1 ifs v own1 sg) m (i + 1) acc h'
                  | _ => .no).ons C) := by
              intro h4 c e5
              rw [e5] at hq
              have hq : Run g ρ1 H1 (ke Q) ((match (match tru h4 c with
                | some b => (match b with | true => (ev P n v sg' h4).on fun x h5 => .ok x h5 | false => .nx sg' h4)
                | none => .no) with
                  | .ok x h' => loopA s1 (fLc P n tg1 ifs v own1 sg) m (i + 1) (x :: acc) h'
                  | .nx _ h' => loopA s1 (fLc P n tg1 ifs v own1 sg) m (i + 1) acc h'
                  | _ => .no).ons C) := hq
              cases e6 : tru h4 c with
              | none => rw [e6] at hq; exact (show False from hq).elim
              | some b => rw [e6] at hq; exact ⟨b, rfl, hq⟩
            cases fs with
            | nil =>
              cases n with
              | zero => exact (show False from hq).elim
              | succ n =>
                obtain ⟨b, e5, q⟩ := test h2' (.bl true) (by rw [hf rfl]; rfl)
                cases e5
                exact rest true ρ2 H' h2' m3' s3' n6 e6 er' (r2.mono m3') q
            | cons f fs =>
              refine ⟨ρ2, h2', sg', s3', er', ?_⟩
              cases e5 : ev P n ifs sg' h2' with
              | ok c h4 =>
                obtain ⟨b, e7, q⟩ := test h4 c e5
                refine ⟨b, e7, fun ρ4 H4 m4 s4 _ => ?_⟩
                obtain ⟨e9, n5⟩ := m4.ou D _ e6 (fun _ z => by cases z) n6
                exact rest b ρ4 H4 h4 (m3'.trans m4) s4 n5 e9 (er'.mono m4) ((r2.mono m3').mono m4) q
              | _ => rw [e5] at hq; exact (show False from hq).elim
          | _ => rw [e4] at hq; exact (show False from hq).elim
  | _ => rw [e0] at hr; exact (show False from hr).elim
theorem lc2_imp {tg it tg1 it1 ifs v : I} {own own1 : List Nat} {fs : List Expr} (ngx : ∀ o i, tg ≠ .gx o i) (ngx1 : ∀ o i, tg1 ≠ .gx o i) (ow : gOwn own tg = true) (ow1 : gOwn own1 tg1 = true) (hK : X.K = g.K)
    (hf : fs = [] → ifs = .cst (.bl true)) : ∀ σ H Q, tE P g (n + 1) (.lc2 tg it tg1 it1 ifs v own own1) σ H Q → tLc2 (tI P g n it) (gV X.K tg) tYes (tI P g n it1) (gV X.K tg1) (tIf P g n ifs fs) (tE P g n v) own own1 σ H Q := fun σ H Q hr => by
  obtain ⟨ρ, h, sg, sim, er, hr⟩ := hr
  refine ⟨ρ, h, sg, sim, er, Run.onsr (show Run g ρ H (ke Q) ((ev P n it sg h).onsr fun s h1 => (loopB s (fOut P n tg tg1 it1 ifs v own own1 sg) turns 0 [] h1).ons fun ds h2 => newL h2 ds) from hr) fun s h1 ρ1 H1 m1 s1 hr1 => fun J hJ D hD => ?_⟩
  let C : Nat → Nat → List Ev.D → Hh → R := fun m i acc h2 => (loopB s (fOut P n tg tg1 it1 ifs v own own1 sg) m i acc h2).ons fun ds h3 => newL h3 ds
  let W : Nat → Nat → Hp → Prop := fun i m H2 => ∃ (ρ2 : List Addr) (h2 : Hh) (acc : List Ev.D) (av : List V), Mono g ρ1 H1 ρ2 H2 ∧ Sim g ρ2 h2 H2 ∧ D ∉ ρ2 ∧ H2 D = some (.lst av) ∧ Reps g ρ2 H2 acc.reverse av ∧ Run g ρ1 H1 (ke Q) (C m i acc h2)
  have nD : D ∉ ρ1 := fun hm => by
    obtain ⟨a, ha⟩ := List.getElem?_of_mem hm
    obtain ⟨ds, vs, _, e2, _⟩ := sim_at s1 ha
    rw [hD] at e2
    cases e2
  have hC : ∀ m i acc h, Run g ρ1 H1 (ke Q) (C m i acc h) → acc.length ≤ sizeLine := fun m i acc h q => by
    cases e : loopB s (fOut P n tg tg1 it1 ifs v own own1 sg) m i acc h with
    | oks ds h' => exact loopB_len fOut_len _ _ _ _ _ _ e
    | _ => exact (show False from by
        have q : Run g ρ1 H1 (ke Q) ((loopB s (fOut P n tg tg1 it1 ifs v own own1 sg) m i acc h).ons fun ds h3 => newL h3 ds) := q
        rw [e] at q
        exact q).elim
  refine ⟨W, ⟨turns, ρ1, h1, [], [], Mono.new hD, s1.new hD, nD, upd_same, .nil, hr1⟩, ?_⟩
  rintro i m H2 ⟨ρ2, h2, acc, av, m2, s2, n2, e2, r2, hr2⟩
  cases m with
  | zero => exact (show False from hr2).elim
  | succ m =>
    have hr2 : Run g ρ1 H1 (ke Q) ((match srcAt h2 s i with
      | some (some d) => match fOut P n tg tg1 it1 ifs v own own1 sg d acc h2 with
        | .oks acc' h' => loopB s (fOut P n tg tg1 it1 ifs v own own1 sg) m (i + 1) acc' h'
        | _ => .no
      | some none => match Nat.ble acc.length line with
        | true => .oks acc.reverse h2
        | false => .no
      | none => .no).ons fun ds h3 => newL h3 ds) := hr2
    obtain ⟨j1, j2⟩ := hJ ρ2 h2 H2 i m2.m0 s2
    cases e3 : srcAt h2 s i with
    | none => rw [e3] at hr2; exact (show False from hr2).elim
    | some o =>
      rw [e3] at hr2
      cases o with
      | none =>
        left
        refine ⟨j1 e3, ?_⟩
        dsimp only at hr2
        cases e4 : Nat.ble acc.length line with
        | false => rw [e4] at hr2; exact (show False from hr2).elim
        | true =>
          rw [e4] at hr2
          have hr2 : Run g ρ1 H1 (ke Q) (newL h2 acc.reverse) := hr2
          obtain ⟨s3, e5⟩ := s2.adopt e2 n2 r2
          exact hr2 (ρ2 ++ [D]) H2 (.ref D) ⟨m2.h, fun a p e => by
            have := m2.pf a p e
            rw [List.getElem?_append_left (List.getElem?_eq_some_iff.mp this).1]
            exact this, fun p o hp nt np => by
              obtain ⟨q1, q2⟩ := m2.ou p o hp nt np
              refine ⟨q1, fun hm => ?_⟩
              rcases List.mem_append.mp hm with hm | hm
              · exact q2 hm
              · simp at hm
                subst hm
                rw [hD] at hp
                cases hp⟩ s3 (.ptr e5)
      | some d =>
        right
        dsimp only at hr2
        rw [ons_match] at hr2
        obtain ⟨go, yld⟩ := j2 d e3
        refine ⟨go, fun H' => W (i + 1) m H', fun H' w => ⟨m, Nat.lt_succ_self m, w⟩, fun x H' y => ?_⟩
        obtain ⟨m3, s3, r3⟩ := yld x H' y
        have er3 := ((er.mono m1).mono (m2.trans m3)).wipe own
        obtain ⟨e6, n6⟩ := m3.ou D _ e2 (fun _ z => by cases z) n2
        have hq : Run g ρ1 H1 (ke Q) ((match asg (ev P n) tg d (wipeD sg own) h2 with
          | .nx σ2 h3 => (ev P n it1 σ2 h3).onsr fun s1 h4 => loopA s1 (fLc P n tg1 ifs v own1 σ2) turns 0 acc h4
          | _ => .no).ons (C m (i + 1))) := hr2
        clear hr2
        cases e4 : asg (ev P n) tg d (wipeD sg own) h2 with
        | nx sg' h2' =>
          rw [e4] at hq
          dsimp only at hq
          rw [hK]
          refine gV_ok own ngx s3 er3 r3 e4 fun eh σ' er' ww => ⟨(ww ow).trans (wipe_wipe σ own), ?_⟩
          subst eh
          have key := inner_imp (X := X) ngx1 ow1 hK hf hD (hC m (i + 1)) (Nx := fun H' => W (i + 1) m H') (fun ρ4 H4 h4 acc' av' m4 s4 n4 e7 r4 q => ⟨ρ4, h4, acc', av', m4, s4, n4, e7, r4, q⟩) (m2.trans m3) s3 n6 e6 er' (r2.mono m3) hq
          rw [hK] at key
          unfold tYes
          dsimp only
          rw [if_pos rfl]
          exact key
        | _ => rw [e4] at hq; exact (show False from hq).elim
theorem lc2_parts (ih : Main P g M n) (k : XOk P g M N X sc so (n + 1)) {tg it tg1 it1 ifs v : I} {own own1 : List Nat} {e : Expr} (c : ckE M N sc (.lc2 tg it tg1 it1 ifs v own own1) e = true) {C : Prop}
    (f : ∀ (elt t iter t1 iter1 : Expr) (fs : List Expr) (scope : Scope) (pos : Pos) (ow : List (Str × Nat)), e = .ListComp elt [⟨t, iter, [], 0⟩, ⟨t1, iter1, fs, 0⟩] scope pos → PI X t iter (tI P g n it) → BlkOk X.N X.env.scope scope ow → (∀ i ∈ own1, i ∈ ow.map (·.2)) →
      (∀ (s : Shared) (H : Hp) (C : Addr) (cl : List (Str × Addr)) (fp : List Addr), PG (X.blk s H scope (compEnvC scope cl C X.env) fp) t (gV X.K tg)) →
      (∀ (s : Shared) (H : Hp) (C : Addr) (cl : List (Str × Addr)) (fp : List Addr), PTs (X.blk s H scope (compEnvC scope cl C X.env) fp) [] tYes) →
      (∀ (s : Shared) (H : Hp) (C : Addr) (cl : List (Str × Addr)) (fp : List Addr), PI (X.blk s H scope (compEnvC scope cl C X.env) fp) t1 iter1 (tI P g n it1)) →
      (∀ (s : Shared) (H : Hp) (C : Addr) (cl : List (Str × Addr)) (fp : List Addr), PG (X.blk s H scope (compEnvC scope cl C X.env) fp) t1 (gV X.K tg1)) →
      (∀ (s : Shared) (H : Hp) (C : Addr) (cl : List (Str × Addr)) (fp : List Addr), PTs (X.blk s H scope (compEnvC scope cl C X.env) fp) fs (tIf P g n ifs fs)) →
      (∀ (s : Shared) (H : Hp) (C : Addr) (cl : List (Str × Addr)) (fp : List Addr), PE (X.blk s H scope (compEnvC scope cl C X.env) fp) elt (tE P g n v)) →
      (∀ x, foldedSetIterable iter X.env x = pure x) → (∀ env x, foldedSetIterable iter1 env x = pure x) →
      (∀ σ H Q, tE P g (n + 1) (.lc2 tg it tg1 it1 ifs v own own1) σ H Q → tLc2 (tI P g n it) (gV X.K tg) tYes (tI P g n it1) (gV X.K tg1) (tIf P g n ifs fs) (tE P g n v) (ow.map (·.2)) own1 σ H Q) → C) : C := by
  unfold ckE at c
  split at c
  · rename_i elt gs scope pos
    split at c
    · rename_i t iter as t1 iter1 fs as1
      obtain ⟨c, c17⟩ := bnd c
      obtain ⟨c, c16⟩ := bnd c
      obtain ⟨c, c15⟩ := bnd c
      obtain ⟨c, c14⟩ := bnd c
      obtain ⟨c, c13⟩ := bnd c
      obtain ⟨c, c12⟩ := bnd c
      obtain ⟨c, c11⟩ := bnd c
      obtain ⟨c, c10⟩ := bnd c
      obtain ⟨c, c9⟩ := bnd c
      obtain ⟨c, c8⟩ := bnd c
      obtain ⟨c, c7⟩ := bnd c
      obtain ⟨c, c6⟩ := bnd c
      obtain ⟨c, c5⟩ := bnd c
      obtain ⟨c, c4⟩ := bnd c
      obtain ⟨c, c3⟩ := bnd c
      obtain ⟨c1, c2⟩ := bnd c
      obtain rfl := of_decide_eq_true c1
      obtain rfl := of_decide_eq_true c2
      have kd : scope.kind = .function := (blkOk_by c4).kind
      have kb := fun (s : Shared) (H : Hp) (C : Addr) (cl : List (Str × Addr)) (fp : List Addr) => k.down.blk kd s H C cl fp
      have ngx : ∀ o i, tg ≠ .gx o i := fun o i e => by subst e; cases c12
      have ngx1 : ∀ o i, tg1 ≠ .gx o i := fun o i e => by subst e; cases c13
      have hown : (own.map fun k => (N.getD k "", k)).map (·.2) = own := by
        rw [List.map_map]
        exact List.map_id' own
      have hf : fs = [] → ifs = .cst (.bl true) := fun e => by
        subst e
        split at c10
        · split at c10
          · rfl
          · cases c10
        · rename_i hh; cases hh
        · rename_i hh _; exact absurd rfl hh
      have ht : ∀ (s : Shared) (H : Hp) (C : Addr) (cl : List (Str × Addr)) (fp : List Addr), PTs (X.blk s H scope (compEnvC scope cl C X.env) fp) fs (tIf P g n ifs fs) := fun s H C cl fp => by
        cases fs with
        | nil => exact pts_nil
        | cons f fs =>
          cases fs with
          | nil => exact pts_one (ih.mT N _ _ _ (kb s H C cl fp) ifs _ c10)
          | cons _ _ => cases c10
      refine f elt t iter t1 iter1 fs scope pos _ rfl (ih.mI N X sc so k.down it iter t c3 c16) (blkOk_by (by rw [k.hN, k.hsc]; exact c4)) (fun i hi => by
        rw [hown]
        exact of_decide_eq_true (List.all_eq_true.mp c9 i hi)) (fun s H C cl fp => pg_gV (kb s H C cl fp) c5) (fun s H C cl fp => pts_nil)
        (fun s H C cl fp => ih.mI N _ _ _ (kb s H C cl fp) it1 iter1 t1 c7 c17) (fun s H C cl fp => pg_gV (kb s H C cl fp) c8) ht (fun s H C cl fp => ih.mE N _ _ _ (kb s H C cl fp) v elt c11) (fun x => foldNot (notb c14)) (fun env x => foldNot (notb c15)) ?_
      rw [hown]
      exact lc2_imp ngx ngx1 c12 c13 k.hK hf
    · cases c
  · cases c
theorem s_lc2 (ih : Main P g M n) (k : XOk P g M N X sc so (n + 1)) {tg it tg1 it1 ifs v : I} {own own1 : List Nat} {e : Expr} (c : ckE M N sc (.lc2 tg it tg1 it1 ifs v own own1) e = true) : PE X e (tE P g (n + 1) (.lc2 tg it tg1 it1 ifs v own own1)) :=
  lc2_parts ih k c fun elt t iter t1 iter1 fs scope pos ow e hi ok hv hg ht hi1 hg1 ht1 he hs hs1 imp => by
    subst e
    exact PE.imp (pe_lc2 k.calm (by rw [k.hN]; exact k.nd) hi ok hv hg ht hi1 hg1 ht1 he hs hs1) imp
end
end Ev
-- EvQ
/-! statements -/
namespace Ev
open PySem PySem.Spec PyProof.Rows L2
/-! the sides -/
theorem kind_block {env : Env} (h : env.scope.kind = .function) : env.blockKind = .function := by
  unfold Env.blockKind
  rw [h]
  rfl
theorem sw_eq {env : Env} {ts vs : List Expr} {k k2 : Nat} {p p2 : Pos} : swappedStores [.Tuple ts k p] (.Tuple vs k2 p2) env =
    (if (!(ts.length == 2 || ts.length == 3) || vs.length != ts.length || env.blockKind != .function) = true then pure none
     else if (vs.any isStar) = true then pure none
     else if ((parNames env.scope ts).length != ts.length || (parNames env.scope ts).eraseDups.length != (parNames env.scope ts).length) = true then pure none
     else if (vs.all (foldedForSure 8)) = true then pure none
     else if (vs.all (constantsAlone 8)) = true then (do unsupported "assign.tuple-of-constant-expressions:order-of-the-stores"; pure (some (parNames env.scope ts)))
     else pure (some (parNames env.scope ts))) := by
  unfold swappedStores
  rfl
theorem swNo_ok {env : Env} {sc : Scope} {t e : Expr} (hs : env.scope = sc) (h : swNo sc t e = true) : swappedStores [t] e env = pure none := by
  subst hs
  cases t with
  | Tuple ts k p =>
    cases e with
    | Tuple vs k2 p2 =>
      have h : (!(ts.length == 2 || ts.length == 3) || vs.length != ts.length || vs.all (foldedForSure 8) || (parNames env.scope ts).length != ts.length) = true := h
      rw [sw_eq]
      split
      · rfl
      · rename_i h1
        split
        · rfl
        · split
          · rfl
          · rename_i h3
            split
            · rfl
            · rename_i h4
              exfalso
              simp only [Bool.or_eq_true, not_or] at h h1 h3
              rcases h with ((h | h) | h) | h
              · exact h1.1.1 h
              · exact h1.1.2 h
              · exact h4 h
              · exact h3.1 h
    | _ => unfold swappedStores; rfl
  | List ts p =>
    cases e with
    | Tuple _ _ _ => cases h
    | _ => unfold swappedStores; rfl
  | _ => unfold swappedStores; cases e <;> rfl
theorem swYes_ok {env : Env} {sc : Scope} {ts vs : List Expr} {ns : List Str} {k k2 : Nat} {p p2 : Pos} (hs : env.scope = sc) (hk : sc.kind = .function) (h : swYes sc ts vs ns = true) : swappedStores [.Tuple ts k p] (.Tuple vs k2 p2) env = pure (some ns) := by
  subst hs
  have hb := kind_block hk
  unfold swYes at h
  simp only [Bool.and_eq_true] at h
  obtain ⟨⟨⟨⟨⟨⟨⟨h1, h2⟩, h3⟩, h4⟩, h5⟩, h6⟩, h7⟩, h8⟩ := h
  have h4 := of_decide_eq_true h4
  rw [sw_eq, hb, h4, h1]
  have e2 : (vs.length != ts.length) = false := by simpa using h2
  have e5 : (ns.length != ts.length) = false := by simpa using h5
  have e6 : (ns.eraseDups.length != ns.length) = false := by simpa using h6
  rw [e2, e5, e6, notb h3, notb h7, notb h8]
  rfl
theorem lcB_ok {env : Env} {sc : Scope} {t e : Expr} {l : Nat} {b : Bool} (hs : env.scope = sc) (hk : sc.kind = .function) (h : lcB sc t e = some b) : swapsWithSole [t] e l env = pure b := by
  subst hs
  have hb := kind_block hk
  show swapsWith e (some t) l env = pure b
  cases e with
  | ListComp elt gs s p =>
    unfold swapsWith
    cases t with
    | Name y py =>
      have h := Option.some.inj h
      show (pure (env.blockKind == .function && env.kindOf y == some .local && py.line == p.line && !(s.names.any fun (n, k) => n == y && (k == .local || k == .cell))) : Sem Bool) = pure b
      rw [hb, ← h]
      rfl
    | _ => cases h; rfl
  | SetComp _ _ _ _ => cases h
  | DictComp _ _ _ _ _ => cases h
  | _ => cases h; rfl
theorem comp_no {e : Expr} {t : Option Expr} {l : Nat} {env : Env} (h : isComp e = false) : swapsWith e t l env = pure false := by
  cases e <;> first | (cases h; done) | (unfold swapsWith; rfl)
end Ev
-- EvS
/-! statements are sound -/
namespace Ev
open PySem PySem.Spec PyProof.Rows L2
section
variable {P : Pg} {g : G} {M : Nm} {N : List Str} {X : Cx} {sc so : Scope} {n : Nat}
theorem asgs_nx : ∀ (r : I) (ds : List D) (sg : Sg) (h : Hh), asgs r ds sg h = .no ∨ ∃ sg', asgs r ds sg h = .nx sg' h := by
  intro r
  induction r with
  | gnil =>
    intro ds sg h
    cases ds with
    | nil => exact .inr ⟨sg, rfl⟩
    | cons _ _ => exact .inl rfl
  | gcons g1 r _ ih =>
    intro ds sg h
    cases g1 with
    | gv i =>
      cases ds with
      | nil => exact .inl rfl
      | cons d ds => exact ih ds (sg.set i d) h
    | _ => exact .inl rfl
  | _ => intro ds sg h; exact .inl rfl
theorem asg_nx {E : I → Sg → Hh → R} {tg : I} {d : D} {sg : Sg} {h : Hh} (ngx : ∀ o i, tg ≠ .gx o i) : asg E tg d sg h = .no ∨ ∃ sg', asg E tg d sg h = .nx sg' h := by
  cases tg with
  | gv i => exact .inr ⟨_, rfl⟩
  | gt r =>
    show (match itemsOf h d with | some ds => asgs r ds sg h | none => .no) = .no ∨ ∃ sg', (match itemsOf h d with | some ds => asgs r ds sg h | none => .no) = .nx sg' h
    cases itemsOf h d with
    | none => exact .inl rfl
    | some ds => exact asgs_nx r ds sg h
  | gx o i => exact absurd rfl (ngx o i)
  | _ => exact .inl rfl
/-- a target takes a value -/
theorem asg_run {ρ : List Addr} {H : Hp} {sg : Sg} {σ : L2.St} {h : Hh} {d : D} {v : V} {D' : Ends} {tg : I} (ngx : ∀ o i, tg ≠ .gx o i) (sim : Sim g ρ h H) (er : EnvR g ρ H sg σ) (rr : Rep g ρ H d v) {E : I → Sg → Hh → R} (hr : Run g ρ H (kx D') (asg E tg d sg h)) :
    gV g.K tg v σ H D'.nx := by
  rcases asg_nx (E := E) (d := d) (sg := sg) (h := h) ngx with e | ⟨sg', e⟩
  · rw [e] at hr
    exact (show False from hr).elim
  · rw [e] at hr
    exact gV_ok [] ngx sim er rr e fun _ σ' er' _ => hr ρ H σ' (Mono.refl _ _ _) sim er'
theorem set_imp {o i : I} {d : D} {v : V} {σ : L2.St} {H : Hp} {D' : Ends} {ρ : List Addr} {h : Hh} {sg : Sg} (sim : Sim g ρ h H) (er : EnvR g ρ H sg σ) (rr : Rep g ρ H d v) (hr : Run g ρ H (kx D') (asg (ev P n) (.gx o i) d sg h)) :
    gSub (tE P g n o) (tE P g n i) rSetL v σ H D'.nx := by
  refine ⟨ρ, h, sg, sim, er, Run.on (show Run g ρ H (kx D') ((ev P n o sg h).on fun x h2 => (ev P n i sg h2).on fun y h3 => match setAt x y d h3 with
    | some h4 => .nx sg h4
    | none => .no) from hr) fun x h2 ρ2 H2 xv m2 s2 r2 hr2 => ?_⟩
  refine ⟨ρ2, h2, sg, s2, er.mono m2, hr2.on fun y h3 ρ3 H3 yv m3 s3 r3 hr3 => ?_⟩
  have go : ∀ {a : Nat} {k : Int} {ds : List D} {j : Nat}, x = .ptr a → y = .int k → h3[a]? = some ds → ixN ds.length k = some j → isPtr d = false → Run g ρ3 H3 (kx D') (.nx sg (h3.set a (ds.set j d))) → rSetL xv yv v H3 fun H4 => D'.nx σ H4 := by
    intro a k ds j ex ey e1 e2 e3 hr4
    subst ex ey
    obtain ⟨p, rfl, hp⟩ := (r2.mono m3).ptr'
    obtain rfl := r3.int
    obtain ⟨ds', vs, h5, h6, h7⟩ := sim_at s3 hp
    rw [e1] at h5
    cases h5
    have rd : Rep g (ρ3.take a) H3 d v := .pure ((rr.mono (m2.trans m3)).toP e3)
    obtain ⟨s4, m4⟩ := s3.write hp h6 (h7.set rd j)
    exact ⟨p, vs, k, j, rfl, rfl, h6, by rw [← h7.length]; exact ixN_ok e2, hr4 ρ3 _ σ m4 s4 ((er.mono (m2.trans m3)).mono m4)⟩
  cases e : setAt x y d h3 with
  | none => rw [e] at hr3; exact (show False from hr3).elim
  | some h4 =>
    rw [e] at hr3
    unfold setAt at e
    split at e
    · rename_i a k
      cases e1 : h3[a]? with
      | none => rw [e1] at e; cases e
      | some ds =>
        rw [e1] at e
        dsimp only at e
        cases e2 : ixN ds.length k with
        | none => rw [e2] at e; cases e
        | some j =>
          rw [e2] at e
          dsimp only at e
          cases e3 : isPtr d with
          | true => rw [e3] at e; cases e
          | false =>
            rw [e3] at e
            cases e
            exact go rfl rfl e1 e2 e3 hr3
    · cases e
theorem asg_imp (hK : X.K = g.K) {a e : I} (ngx : ∀ o i, a ≠ .gx o i) : ∀ D' σ H, tS P g (n + 1) (.sAsg a e) D' σ H → tAsg (tE P g n e) (gV X.K a) D' σ H := fun D' σ H hr => by
  obtain ⟨ρ, h, sg, sim, er, hr⟩ := hr
  refine ⟨ρ, h, sg, sim, er, Run.on (show Run g ρ H (kx D') ((ev P n e sg h).on fun d h1 => asg (ev P n) a d sg h1) from hr) fun d h1 ρ1 H1 v m1 s1 r1 hr1 => ?_⟩
  rw [hK]
  exact asg_run ngx s1 (er.mono m1) r1 hr1
theorem asgx_imp {o i e : I} : ∀ D' σ H, tS P g (n + 1) (.sAsg (.gx o i) e) D' σ H → tAsg (tE P g n e) (gSub (tE P g n o) (tE P g n i) rSetL) D' σ H := fun D' σ H hr => by
  obtain ⟨ρ, h, sg, sim, er, hr⟩ := hr
  refine ⟨ρ, h, sg, sim, er, Run.on (show Run g ρ H (kx D') ((ev P n e sg h).on fun d h1 => asg (ev P n) (.gx o i) d sg h1) from hr) fun d h1 ρ1 H1 v m1 s1 r1 hr1 => ?_⟩
  exact set_imp s1 (er.mono m1) r1 hr1
theorem starG1 {t : Expr} {env : Env} (h : isStar t = false) : (assignEach [t] env).map (·.2) = [assign t env] := by
  rw [notStarG h]
  rfl
theorem pg_gx (ih : Main P g M n) (k : XOk P g M N X sc sc n) {o i : I} {e : Expr} (c : ckG M N sc (.gx o i) e = true) : PG X e (gSub (tE P g n o) (tE P g n i) rSetL) := by
  unfold ckG at c
  split at c
  · rename_i a s pos
    obtain ⟨c, c3⟩ := bnd c
    obtain ⟨c1, c2⟩ := bnd c
    refine pg_sub (ih.mE N X sc sc k o a c1) (ih.mE N X sc sc k i s c2) set_list ?_
    cases s <;> first | (cases c3; done) | (intro _; rfl)
  · cases c
theorem ss_asg (ih : Main P g M n) (k : XOk P g M N X sc sc (n + 1)) {a e : I} {s : Stmt} (c : ckS M N sc (.sAsg a e) s = true) : PS X s (tS P g (n + 1) (.sAsg a e)) := by
  unfold ckS at c
  split at c
  · rename_i ts v pos
    split at c
    · rename_i t
      obtain ⟨c, c5⟩ := bnd c
      obtain ⟨c, c4⟩ := bnd c
      obtain ⟨c, c3⟩ := bnd c
      obtain ⟨c1, c2⟩ := bnd c
      have he := ih.mE N X sc sc k.down e v c1
      have hw := swNo_ok k.hsc c4
      have h1 := starG1 (env := X.env) (notb c3)
      cases hl : lcB sc t v with
      | none => rw [hl] at c5; cases c5
      | some b =>
        have hs := lcB_ok (l := pos.line) k.hsc k.kind hl
        cases b with
        | false =>
          by_cases hg : ∃ o i, a = .gx o i
          · obtain ⟨o, i, rfl⟩ := hg
            exact PS.imp (ps_asg he (pg_gx ih k.down c2) hs hw h1) asgx_imp
          · exact PS.imp (ps_asg he (pg_gV k.down c2) hs hw h1) (asg_imp k.hK fun o i e => hg ⟨o, i, e⟩)
        | true =>
          have : ∃ y py, t = .Name y py := by
            cases v with
            | ListComp elt gs s p =>
              cases t with
              | Name y py => exact ⟨y, py, rfl⟩
              | _ => cases hl
            | SetComp _ _ _ _ => cases hl
            | DictComp _ _ _ _ _ => cases hl
            | _ => cases hl
          obtain ⟨y, py, rfl⟩ := this
          have : ∃ j, a = .gv j ∧ N[j]? = some y := by
            cases a with
            | gv j =>
              obtain ⟨d1, d2⟩ := bnd (show (decide (N[j]? = some y) && locC sc y) = true from c2)
              exact ⟨j, rfl, of_decide_eq_true d1⟩
            | _ => cases c2
          obtain ⟨j, rfl, hj⟩ := this
          exact PS.imp (ih.mL N X sc k.down e v y py pos j c1 hl hj) (asg_imp k.hK fun o i e => by cases e)
    · cases c
  · cases c
end
end Ev
-- EvU
/-! loops and the rest -/
namespace Ev
open PySem PySem.Spec PyProof.Rows L2
section
variable {P : Pg} {g : G} {M : Nm} {N : List Str} {X : Cx} {sc so : Scope} {n : Nat}
def evFor (P : Pg) (n : Nat) (tg b : I) : D → Sg → Hh → R := fun d σ1 h2 => (asg (ev P n) tg d σ1 h2).onx fun σ2 h3 => ev P n b σ2 h3
theorem for_imp (hK : X.K = g.K) {tg it b : I} (ngx : ∀ o i, tg ≠ .gx o i) : ∀ D' σ H, tS P g (n + 1) (.sFor tg it b) D' σ H → tFor (tI P g n it) (gV X.K tg) (tS P g n b) D' σ H := fun D' σ H hr => by
  obtain ⟨ρ, h, sg, sim, er, hr⟩ := hr
  refine ⟨ρ, h, sg, sim, er, Run.onsr (show Run g ρ H (kx D') ((ev P n it sg h).onsr fun s h1 => loopF s (evFor P n tg b) turns 0 sg h1) from hr) fun s h1 ρ1 H1 m1 s1 hr1 => fun J hJ => ?_⟩
  let W : Nat → Nat → L2.St → Hp → Prop := fun i m σ2 H2 => ∃ (ρ2 : List Addr) (h2 : Hh) (sg2 : Sg), Mono g ρ1 H1 ρ2 H2 ∧ Sim g ρ2 h2 H2 ∧ EnvR g ρ2 H2 sg2 σ2 ∧ Run g ρ1 H1 (kx D') (loopF s (evFor P n tg b) m i sg2 h2)
  refine ⟨W, ⟨turns, ρ1, h1, sg, Mono.refl _ _ _, s1, er.mono m1, hr1⟩, ?_⟩
  rintro i m σ2 H2 ⟨ρ2, h2, sg2, m2, s2, er2, hr2⟩
  cases m with
  | zero => exact (show False from hr2).elim
  | succ m =>
    have hr2 : Run g ρ1 H1 (kx D') (match srcAt h2 s i with
      | some (some d) => match evFor P n tg b d sg2 h2 with
        | .nx σ' h' => loopF s (evFor P n tg b) m (i + 1) σ' h'
        | .ct σ' h' => loopF s (evFor P n tg b) m (i + 1) σ' h'
        | .bk σ' h' => .nx σ' h'
        | .rt d h' => .rt d h'
        | _ => .no
      | some none => .nx sg2 h2
      | none => .no) := hr2
    obtain ⟨j1, j2⟩ := hJ ρ2 h2 H2 i m2.m0 s2
    cases e3 : srcAt h2 s i with
    | none => rw [e3] at hr2; exact (show False from hr2).elim
    | some o =>
      rw [e3] at hr2
      cases o with
      | none => exact .inl ⟨j1 e3, hr2 ρ2 H2 σ2 m2 s2 er2⟩
      | some d =>
        right
        obtain ⟨go, yld⟩ := j2 d e3
        refine ⟨go, fun σ' H' => W (i + 1) m σ' H', fun σ' H' w => ⟨m, Nat.lt_succ_self m, w⟩, fun x H' y => ?_⟩
        obtain ⟨m3, s3, r3⟩ := yld x H' y
        have hq : Run g ρ1 H1 (kx D') (match (asg (ev P n) tg d sg2 h2).onx (fun σ2 h3 => ev P n b σ2 h3) with
          | .nx σ' h' => loopF s (evFor P n tg b) m (i + 1) σ' h'
          | .ct σ' h' => loopF s (evFor P n tg b) m (i + 1) σ' h'
          | .bk σ' h' => .nx σ' h'
          | .rt d h' => .rt d h'
          | _ => .no) := hr2
        clear hr2
        rw [hK]
        rcases asg_nx (E := ev P n) (d := d) (sg := sg2) (h := h2) ngx with e4 | ⟨sg', e4⟩
        · rw [e4] at hq
          exact (show False from hq).elim
        · rw [e4] at hq
          refine gV_ok [] ngx s3 (er2.mono m3) r3 e4 fun _ σ' er' _ => ?_
          refine ⟨ρ2, h2, sg', s3, er', ?_⟩
          have hq : Run g ρ1 H1 (kx D') (match ev P n b sg' h2 with
            | .nx σ' h' => loopF s (evFor P n tg b) m (i + 1) σ' h'
            | .ct σ' h' => loopF s (evFor P n tg b) m (i + 1) σ' h'
            | .bk σ' h' => .nx σ' h'
            | .rt d h' => .rt d h'
            | _ => .no) := by
            cases e5 : ev P n b sg' h2 with
            | _ => rw [show (R.nx sg' h2).onx (fun σ2 h3 => ev P n b σ2 h3) = ev P n b sg' h2 from rfl, e5] at hq; exact hq
          have m23 := m2.trans m3
          cases e5 : ev P n b sg' h2 with
          | nx sg5 h5 =>
            rw [e5] at hq
            exact fun ρ5 H5 σ5 m5 s5 er5 => ⟨ρ5, h5, sg5, m23.trans m5, s5, er5, hq⟩
          | ct sg5 h5 =>
            rw [e5] at hq
            exact fun ρ5 H5 σ5 m5 s5 er5 => ⟨ρ5, h5, sg5, m23.trans m5, s5, er5, hq⟩
          | bk sg5 h5 =>
            rw [e5] at hq
            exact fun ρ5 H5 σ5 m5 s5 er5 => hq ρ5 H5 σ5 (m23.trans m5) s5 er5
          | rt d5 h5 =>
            rw [e5] at hq
            exact fun ρ5 H5 σ5 m5 s5 er5 => hq ρ5 H5 σ5 (m23.trans m5) s5 er5
          | _ => rw [e5] at hq; exact (show False from hq).elim
theorem wh_imp {t b : I} : ∀ D' σ H, tS P g (n + 1) (.sWh t b) D' σ H → tWhile (tT P g n t) (tS P g n b) D' σ H := fun D' σ H hr => by
  obtain ⟨ρ1, h1, sg, s1, er, hr⟩ := hr
  let W : Nat → L2.St → Hp → Prop := fun m σ2 H2 => ∃ (ρ2 : List Addr) (h2 : Hh) (sg2 : Sg), Mono g ρ1 H ρ2 H2 ∧ Sim g ρ2 h2 H2 ∧ EnvR g ρ2 H2 sg2 σ2 ∧ Run g ρ1 H (kx D') (loopW (fun σ1 h1 => ev P n t σ1 h1) (fun σ1 h1 => ev P n b σ1 h1) m sg2 h2)
  refine ⟨W, ⟨turns, ρ1, h1, sg, Mono.refl _ _ _, s1, er, hr⟩, ?_⟩
  rintro m σ2 H2 ⟨ρ2, h2, sg2, m2, s2, er2, hr2⟩
  cases m with
  | zero => exact (show False from hr2).elim
  | succ m =>
    have hr2 : Run g ρ1 H (kx D') ((ev P n t sg2 h2).onb fun b' h1 => match b' with
      | true => match ev P n b sg2 h1 with
        | .nx σ' h' => loopW (fun σ1 h1 => ev P n t σ1 h1) (fun σ1 h1 => ev P n b σ1 h1) m σ' h'
        | .ct σ' h' => loopW (fun σ1 h1 => ev P n t σ1 h1) (fun σ1 h1 => ev P n b σ1 h1) m σ' h'
        | .bk σ' h' => .nx σ' h'
        | .rt d h' => .rt d h'
        | _ => .no
      | false => .nx sg2 h1) := hr2
    refine ⟨ρ2, h2, sg2, s2, er2, ?_⟩
    obtain ⟨d, h3, c, e1, e2, hq⟩ := hr2.onbT
    rw [e1]
    refine ⟨c, e2, fun ρ3 H3 m3 s3 _ => ?_⟩
    have er3 := er2.mono m3
    have m23 := m2.trans m3
    cases c with
    | false =>
      dsimp only
      rw [if_neg Bool.false_ne_true]
      exact hq ρ3 H3 σ2 m23 s3 er3
    | true =>
      dsimp only
      rw [if_pos rfl]
      refine ⟨fun σ' H' => W m σ' H', fun σ' H' w => ⟨m, Nat.lt_succ_self m, w⟩, ρ3, h3, sg2, s3, er3, ?_⟩
      dsimp only at hq
      cases e5 : ev P n b sg2 h3 with
      | nx sg5 h5 =>
        rw [e5] at hq
        exact fun ρ5 H5 σ5 m5 s5 er5 => ⟨ρ5, h5, sg5, m23.trans m5, s5, er5, hq⟩
      | ct sg5 h5 =>
        rw [e5] at hq
        exact fun ρ5 H5 σ5 m5 s5 er5 => ⟨ρ5, h5, sg5, m23.trans m5, s5, er5, hq⟩
      | bk sg5 h5 =>
        rw [e5] at hq
        exact fun ρ5 H5 σ5 m5 s5 er5 => hq ρ5 H5 σ5 (m23.trans m5) s5 er5
      | rt d5 h5 =>
        rw [e5] at hq
        exact fun ρ5 H5 σ5 m5 s5 er5 => hq ρ5 H5 σ5 (m23.trans m5) s5 er5
      | _ => rw [e5] at hq; exact (show False from hq).elim
theorem if_imp {t a b : I} : ∀ D' σ H, tS P g (n + 1) (.sIf t a b) D' σ H → tIfS (tT P g n t) (tS P g n a) (tS P g n b) D' σ H := fun D' σ H hr => by
  obtain ⟨ρ, h, sg, sim, er, hr⟩ := hr
  refine ⟨ρ, h, sg, sim, er, ?_⟩
  obtain ⟨d, h3, c, e1, e2, hq⟩ := Run.onbT (show Run g ρ H (kx D') ((ev P n t sg h).onb fun k h1 => match k with
      | true => ev P n a sg h1
      | false => ev P n b sg h1) from hr)
  rw [e1]
  refine ⟨c, e2, fun ρ3 H3 m3 s3 _ => ?_⟩
  cases c with
  | true => rw [if_pos rfl]; exact ⟨ρ3, h3, sg, s3, er.mono m3, Run.base m3 hq⟩
  | false => rw [if_neg Bool.false_ne_true]; exact ⟨ρ3, h3, sg, s3, er.mono m3, Run.base m3 hq⟩
theorem seq_imp {a r : I} : ∀ D' σ H, tS P g (n + 1) (.sCons a r) D' σ H → tSeq (tS P g n a) (tS P g n r) D' σ H := fun D' σ H hr => by
  obtain ⟨ρ, h, sg, sim, er, hr⟩ := hr
  refine ⟨ρ, h, sg, sim, er, ?_⟩
  have hq : Run g ρ H (kx D') ((ev P n a sg h).onx fun σ1 h1 => ev P n r σ1 h1) := hr
  cases e : ev P n a sg h with
  | nx sg1 h1 =>
    rw [e] at hq
    exact fun ρ1 H1 σ1 m1 s1 er1 => ⟨ρ1, h1, sg1, s1, er1, Run.base m1 hq⟩
  | rt d h1 => rw [e] at hq; exact hq
  | bk sg1 h1 => rw [e] at hq; exact hq
  | ct sg1 h1 => rw [e] at hq; exact hq
  | _ => rw [e] at hq; exact (show False from hq).elim
theorem ret_imp {e : I} : ∀ D' σ H, tS P g (n + 1) (.sRet e) D' σ H → tRet (tE P g n e) D' σ H := fun D' σ H hr => by
  obtain ⟨ρ, h, sg, sim, er, hr⟩ := hr
  refine ⟨ρ, h, sg, sim, er, Run.on (show Run g ρ H (kx D') ((ev P n e sg h).on fun d h1 => .rt d h1) from hr) fun d h1 ρ1 H1 v m1 s1 r1 hr1 => ?_⟩
  exact hr1 ρ1 H1 v (Mono.refl _ _ _) s1 r1
theorem drop_imp {e : I} : ∀ D' σ H, tS P g (n + 1) (.sExp e) D' σ H → tDrop (tE P g n e) D' σ H := fun D' σ H hr => by
  obtain ⟨ρ, h, sg, sim, er, hr⟩ := hr
  refine ⟨ρ, h, sg, sim, er, Run.on (show Run g ρ H (kx D') ((ev P n e sg h).on fun _ h1 => .nx sg h1) from hr) fun d h1 ρ1 H1 v m1 s1 r1 hr1 => ?_⟩
  exact hr1 ρ1 H1 σ (Mono.refl _ _ _) s1 (er.mono m1)
theorem par2_imp {i j : Nat} {a b : I} : ∀ D' σ H, tS P g (n + 1) (.sPar2 i j a b) D' σ H → tPar i j (tCons (tE P g n a) (tCons (tE P g n b) tNil)) D' σ H := fun D' σ H hr => by
  obtain ⟨ρ, h, sg, sim, er, hr⟩ := hr
  refine ⟨ρ, h, sg, sim, er, Run.on (show Run g ρ H (kx D') ((ev P n a sg h).on fun x h1 => (ev P n b sg h1).on fun y h2 => .nx ((sg.set i x).set j y) h2) from hr) fun d h1 ρ1 H1 v m1 s1 r1 hr1 => ?_⟩
  refine ⟨ρ1, h1, sg, s1, er.mono m1, hr1.on fun d2 h2 ρ2 H2 v2 m2 s2 r2 hr2 => ?_⟩
  exact ⟨v, v2, rfl, hr2 ρ2 H2 _ (Mono.refl _ _ _) s2 ((((er.mono m1).mono m2).set (r1.mono m2)).set r2)⟩
theorem par3_imp {i j l : Nat} {a b c : I} : ∀ D' σ H, tS P g (n + 1) (.sPar3 i j l a b c) D' σ H → tPar3 i j l (tCons (tE P g n a) (tCons (tE P g n b) (tCons (tE P g n c) tNil))) D' σ H := fun D' σ H hr => by
  obtain ⟨ρ, h, sg, sim, er, hr⟩ := hr
  refine ⟨ρ, h, sg, sim, er, Run.on (show Run g ρ H (kx D') ((ev P n a sg h).on fun x h1 => (ev P n b sg h1).on fun y h2 => (ev P n c sg h2).on fun z h3 => .nx (((sg.set i x).set j y).set l z) h3) from hr) fun d h1 ρ1 H1 v m1 s1 r1 hr1 => ?_⟩
  refine ⟨ρ1, h1, sg, s1, er.mono m1, hr1.on fun d2 h2 ρ2 H2 v2 m2 s2 r2 hr2 => ?_⟩
  refine ⟨ρ2, h2, sg, s2, (er.mono m1).mono m2, hr2.on fun d3 h3 ρ3 H3 v3 m3 s3 r3 hr3 => ?_⟩
  exact ⟨v, v2, v3, rfl, hr3 ρ3 H3 _ (Mono.refl _ _ _) s3 ((((((er.mono m1).mono m2).mono m3).set ((r1.mono m2).mono m3)).set (r2.mono m3)).set r3)⟩
theorem locB_ok (k : XOk P g M N X sc so n) {x : Str} (h : locB sc x = true) : X.env.scope.names.lookup x = some .local := by
  unfold locB at h
  rw [k.hsc]
  split at h
  · assumption
  · cases h
theorem swYes_star {ts vs : List Expr} {ns : List Str} (h : swYes sc ts vs ns = true) : vs.any isStar = false := by
  unfold swYes at h
  simp only [Bool.and_eq_true] at h
  exact notb h.1.1.1.1.1.2
/-! augmented assignments -/
def rAug (g : G) (o : BOp) : TIp := fun x y H Q => ∃ (ρ : List Addr) (h : Hh) (d e : D), Sim g ρ h H ∧ Rep g ρ H d x ∧ Rep g ρ H e y ∧ Run g ρ H (ke Q) (augop o d e h)
theorem ip_aug (o : BOp) : PIp X (bopOf o) (rAug g o) := by
  intro pins s σ H x y v u Q I rx ry hr
  obtain ⟨ρ, h, d, e, sim, rd, re, hr⟩ := hr
  cases d with
  | int i =>
    cases e with
    | int j =>
      obtain rfl := rd.int
      obtain rfl := re.int
      obtain ⟨t, rfl⟩ := rx
      obtain ⟨t', rfl⟩ := ry
      have fin : ∀ {z : Int}, Run g ρ H (ke Q) (.ok (.int z) h) → ∀ tk, EP X pins σ Q (.int z tk) { s with toks := s.toks + 1 } := fun hq tk => ⟨.int _, H, I.tok _, ⟨_, rfl⟩, hq.mk sim (.pure (.int _))⟩
      cases o with
      | add => exact iadd_int (fin hr _)
      | sub => exact isub_int (fin hr _)
      | mul =>
        have hr' : Run g ρ H (ke Q) (match mulOk i j with | true => .ok (.int (i * j)) h | false => .no) := hr
        cases c : mulOk i j with
        | false => rw [c] at hr'; exact (show False from hr').elim
        | true => rw [c] at hr'; exact imul_int (fin hr' _) (mulOk_ok c)
      | mod =>
        have hr' : Run g ρ H (ke Q) (match posI j with | true => .ok (.int (i % j)) h | false => .no) := hr
        cases c : posI j with
        | false => rw [c] at hr'; exact (show False from hr').elim
        | true =>
          rw [c] at hr'
          have z := posI_ok c
          refine imod_int (by omega) ?_
          rw [Int.fmod_eq_emod_of_nonneg i (by omega)]
          exact fin hr' _
      | fdiv =>
        have hr' : Run g ρ H (ke Q) (match divOk j with | true => .ok (.int (i / j)) h | false => .no) := hr
        cases c : divOk j with
        | false => rw [c] at hr'; exact (show False from hr').elim
        | true =>
          rw [c] at hr'
          have z := posI_ok (Bool.and_eq_true_iff.mp c).1
          refine ifloordiv_int (by omega) ?_ ?_
          · rw [Int.fdiv_eq_ediv_of_nonneg i (by omega)]
            exact fin hr' _
          · exact .inl (PyProof.noPylong_of_log2 (divOk_ok (i := i) c).2)
      | pow => exact (show False from hr).elim
    | _ => exact (show False from hr).elim
  | _ => cases e <;> exact (show False from hr).elim
theorem aug_imp {i : Nat} {o : BOp} {e : I} : ∀ D' σ H, tS P g (n + 1) (.sAug i o e) D' σ H → tAug i (tE P g n e) (rAug g o) D' σ H := fun D' σ H hr => by
  obtain ⟨ρ, h, sg, sim, er, hr⟩ := hr
  have hq : Run g ρ H (kx D') ((getV sg i h).on fun x h1 => (ev P n e sg h1).on fun y h2 => (augop o x y h2).on fun z h3 => .nx (sg.set i z) h3) := hr
  unfold getV at hq
  cases e1 : sg[i]? with
  | none => rw [e1] at hq; exact (show False from hq).elim
  | some d =>
    rw [e1] at hq
    cases e2 : isUna d with
    | true => simp only [e2] at hq; exact (show False from hq).elim
    | false =>
      simp only [e2] at hq
      have hq : Run g ρ H (kx D') ((ev P n e sg h).on fun y h2 => (augop o d y h2).on fun z h3 => .nx (sg.set i z) h3) := hq
      obtain ⟨v, e3, rv⟩ := er.at_ i d e1 e2
      refine ⟨v, e3, ρ, h, sg, sim, er, hq.on fun y h2 ρ2 H2 yv m2 s2 r2 hr2 => ?_⟩
      refine ⟨ρ2, h2, d, y, s2, rv.mono m2, r2, hr2.on fun z h3 ρ3 H3 zv m3 s3 r3 hr3 => ?_⟩
      exact hr3 ρ3 H3 _ (Mono.refl _ _ _) s3 (((er.mono m2).mono m3).set r3)
def rGetA (g : G) : V → V → Hp → VK → Prop := fun x y H Q => ∃ (ρ : List Addr) (h : Hh) (a : Nat) (e : D), Sim g ρ h H ∧ Rep g ρ H (.ptr a) x ∧ Rep g ρ H e y ∧ Run g ρ H (ke Q) (index (.ptr a) e h)
theorem get_aug (hK : X.K = g.K) : PGet X (rGetA g) := by
  intro pins s σ H x y v u Q I rx ry hr
  obtain ⟨ρ, h, a, e, sim, rd, re, hr⟩ := hr
  obtain ⟨p0, rfl, hp0⟩ := rd.ptr'
  obtain ⟨p, vs, k, z, ep, rfl, q, at_, hQ⟩ := index_inv sim rd re hr
  cases ep
  cases rx
  obtain ⟨t, rfl⟩ := ry
  have lst : ∃ ws, H p0 = some (.lst ws) := by
    have hl : a < h.length := by rw [← sim.len]; exact (List.getElem?_eq_some_iff.mp hp0).1
    obtain ⟨ws, h1, _⟩ := sim.get (show h[a]? = some h[a] by simp [hl]) hp0
    exact ⟨ws, h1⟩
  rw [← hK] at q
  have q : SqL X.K H p0 vs := by
    rcases q with q | q
    · exact q
    · obtain ⟨ws, hw⟩ := lst
      obtain ⟨its, r, pl, hz⟩ := I.tuple q
      obtain ⟨its2, n2, r2, ho2, hz2⟩ := I.lst hw
      obtain ⟨o, h1, h2, _⟩ := pl
      rw [ho2] at h1
      cases h1
      exact absurd h2 (by intro z; have := Value.type.inj z; revert this; decide)
  obtain ⟨its, r, pl, hz⟩ := I.list q
  obtain ⟨j, h1, h2, h3, h4, h5⟩ := atI_get at_
  obtain ⟨w, ew, rw'⟩ := r.get h2
  have hl := r.length
  have hn := line63
  have fin : EP X pins σ Q w s := ⟨z, H, I, rw', hQ⟩
  by_cases h0 : 0 ≤ k
  · rw [seqIndex_of h0 h5] at h1
    have e1 := Option.some.inj h1
    exact wpAny_getItem_list pl.isList h0 (by omega) (by rw [e1]; simpa using ew) fin
  · rw [seqIndex_neg (by omega) h4] at h1
    have e1 := Option.some.inj h1
    exact wpAny_getItem_list_neg pl.isList (by omega) (by rw [List.size_toArray] <;> omega) (by omega) (by rw [List.size_toArray, ← hl, e1]; simpa using ew) fin
def rSetA (g : G) : TSet := fun x y z H Q => ∃ (ρ : List Addr) (h : Hh) (a : Nat) (e d : D) (h' : Hh), Sim g ρ h H ∧ Rep g ρ H (.ptr a) x ∧ Rep g ρ H e y ∧ Rep g ρ H d z ∧ setAt (.ptr a) e d h = some h' ∧ ∀ H', Mono g ρ H ρ H' → Sim g ρ h' H' → Q H'
theorem setA_list : PSet X (rSetA g) := by
  intro pins s σ H x y zv v u w Q I rx ry rz hr
  obtain ⟨ρ, h, a, e, d, h', sim, rd, re, rz2, hs, hq⟩ := hr
  refine set_list pins s σ H x y zv v u w Q I rx ry rz ?_
  obtain ⟨p, rfl, hp⟩ := rd.ptr'
  cases e with
  | int k =>
    obtain rfl := re.int
    have hs : (match h[a]? with
      | some ds => match Ev.ixN ds.length k with
        | some j => match isPtr d with
          | true => none
          | false => some (h.set a (ds.set j d))
        | none => none
      | none => none) = some h' := hs
    cases e1 : h[a]? with
    | none => rw [e1] at hs; cases hs
    | some ds =>
      rw [e1] at hs
      dsimp only at hs
      cases e2 : Ev.ixN ds.length k with
      | none => rw [e2] at hs; cases hs
      | some j =>
        rw [e2] at hs
        dsimp only at hs
        cases e3 : isPtr d with
        | true => rw [e3] at hs; cases hs
        | false =>
          rw [e3] at hs
          cases hs
          obtain ⟨ds', vs, h5, h6, h7⟩ := sim_at sim hp
          rw [e1] at h5
          cases h5
          have rd' : Rep g (ρ.take a) H d zv := .pure (rz2.toP e3)
          obtain ⟨s4, m4⟩ := sim.write hp h6 (h7.set rd' j)
          exact ⟨p, vs, k, j, rfl, rfl, h6, by rw [← h7.length]; exact ixN_ok e2, hq _ m4 s4⟩
  | _ => cases hs
theorem augX_imp {o i : I} {op : BOp} {e : I} : ∀ D' σ H, tS P g (n + 1) (.sAugX o i op e) D' σ H → tAugS (tE P g n o) (tE P g n i) (tE P g n e) (rGetA g) (rAug g op) (rSetA g) D' σ H := fun D' σ H hr => by
  obtain ⟨ρ, h, sg, sim, er, hr⟩ := hr
  refine ⟨ρ, h, sg, sim, er, Run.on (show Run g ρ H (kx D') ((ev P n o sg h).on fun x h1 => (ev P n i sg h1).on fun y h2 => match x with
      | .ptr a => (index (.ptr a) y h2).on fun u h3 => (ev P n e sg h3).on fun v h4 => (augop op u v h4).on fun z h5 => match setAt (.ptr a) y z h5 with
        | some h6 => .nx sg h6
        | none => .no
      | _ => .no) from hr) fun x h1 ρ1 H1 xv m1 s1 r1 hr1 => ?_⟩
  refine ⟨ρ1, h1, sg, s1, er.mono m1, hr1.on fun y h2 ρ2 H2 yv m2 s2 r2 hr2 => ?_⟩
  cases x with
  | ptr a =>
    refine ⟨ρ2, h2, a, y, s2, r1.mono m2, r2, hr2.on fun u h3 ρ3 H3 uv m3 s3 r3 hr3 => ?_⟩
    refine ⟨ρ3, h3, sg, s3, ((er.mono m1).mono m2).mono m3, hr3.on fun v h4 ρ4 H4 vv m4 s4 r4 hr4 => ?_⟩
    refine ⟨ρ4, h4, u, v, s4, r3.mono m4, r4, hr4.on fun z h5 ρ5 H5 zv m5 s5 r5 hr5 => ?_⟩
    cases c : setAt (.ptr a) y z h5 with
    | none => rw [c] at hr5; exact (show False from hr5).elim
    | some h6 =>
      rw [c] at hr5
      refine ⟨ρ5, h5, a, y, z, h6, s5, (((r1.mono m2).mono m3).mono m4).mono m5, ((r2.mono m3).mono m4).mono m5, r5, c, fun H6 m6 s6 => ?_⟩
      exact hr5 ρ5 H6 σ m6 s6 ((((((er.mono m1).mono m2).mono m3).mono m4).mono m5).mono m6)
  | _ => exact (show False from hr2).elim
theorem augNot {j : Expr} (h : isSlice j = false) (ov iv nw : Value) : augStore j ov iv nw = (do holding [nw, ov, iv] (setItem ov iv nw); release [nw, ov, iv] []; pure .next) := by
  cases j <;> first | rfl | cases h
theorem m_S (ih : Main P g M n) (k : XOk P g M N X sc sc (n + 1)) (hp : PassesOwn (model X.prog X.w) X.A X.env X.xe) (i : I) (s : Stmt) (c0 : ckS M N sc i s = true) : PS X s (tS P g (n + 1) i) := by
  have c := c0
  unfold ckS at c
  split at c
  · exact ss_asg ih k c0
  · split at c
    · split at c
      · rename_i x p y q _ _ u w _ _
        obtain ⟨c, c8⟩ := bnd c
        obtain ⟨c, c7⟩ := bnd c
        obtain ⟨c, c6⟩ := bnd c
        obtain ⟨c, c5⟩ := bnd c
        obtain ⟨c, c4⟩ := bnd c
        obtain ⟨c, c3⟩ := bnd c
        obtain ⟨c1, c2⟩ := bnd c
        have hst := swYes_star c8
        have s1 : isStar u = false := by simp only [List.any_cons, List.any_nil, Bool.or_false, Bool.or_eq_false_iff] at hst; exact hst.1
        have s2 : isStar w = false := by simp only [List.any_cons, List.any_nil, Bool.or_false, Bool.or_eq_false_iff] at hst; exact hst.2
        exact PS.imp (ps_par k.calm (by rw [k.hN]; exact k.nd) (by rw [k.hN]; exact of_decide_eq_true c3) (by rw [k.hN]; exact of_decide_eq_true c4) (of_decide_eq_true c5) (locB_ok k c6) (locB_ok k c7)
          (pa_cons (ih.mE N X sc sc k.down _ u c1) (pa_cons (ih.mE N X sc sc k.down _ w c2) pa_nil (notStar s2)) (notStar s1)) (swYes_ok k.hsc k.kind c8) (by unfold swapsWithSole; exact comp_no rfl)) par2_imp
      · cases c
    · cases c
  · split at c
    · split at c
      · rename_i x p y q z r _ _ u w t _ _
        obtain ⟨c, c13⟩ := bnd c
        obtain ⟨c, c12⟩ := bnd c
        obtain ⟨c, c11⟩ := bnd c
        obtain ⟨c, c10⟩ := bnd c
        obtain ⟨c, c9⟩ := bnd c
        obtain ⟨c, c8⟩ := bnd c
        obtain ⟨c, c7⟩ := bnd c
        obtain ⟨c, c6⟩ := bnd c
        obtain ⟨c, c5⟩ := bnd c
        obtain ⟨c, c4⟩ := bnd c
        obtain ⟨c, c3⟩ := bnd c
        obtain ⟨c1, c2⟩ := bnd c
        have hst := swYes_star c13
        simp only [List.any_cons, List.any_nil, Bool.or_false, Bool.or_eq_false_iff] at hst
        obtain ⟨s1, s2, s3⟩ := hst
        exact PS.imp (ps_par3 k.calm (by rw [k.hN]; exact k.nd) (by rw [k.hN]; exact of_decide_eq_true c4) (by rw [k.hN]; exact of_decide_eq_true c5) (by rw [k.hN]; exact of_decide_eq_true c6) (of_decide_eq_true c7) (of_decide_eq_true c8) (of_decide_eq_true c9) (locB_ok k c10) (locB_ok k c11) (locB_ok k c12)
          (pa_cons (ih.mE N X sc sc k.down _ u c1) (pa_cons (ih.mE N X sc sc k.down _ w c2) (pa_cons (ih.mE N X sc sc k.down _ t c3) pa_nil (notStar s3)) (notStar s2)) (notStar s1)) (swYes_ok k.hsc k.kind c13) (by unfold swapsWithSole; exact comp_no rfl)) par3_imp
      · cases c
    · cases c
  · split at c
    · rename_i t p v pos
      obtain ⟨c, c3⟩ := bnd c
      obtain ⟨c1, c2⟩ := bnd c
      obtain rfl := bopB_ok c2
      split at c1
      · obtain ⟨d1, d2⟩ := bnd c1
        obtain ⟨l1, l2⟩ := locC_ok k d2
        exact PS.imp (ps_aug (by rw [k.hN]; exact k.nd) (by rw [k.hN]; exact of_decide_eq_true d1) l1 (ih.mE N X sc sc k.down _ v c3) (ip_aug (g := g) _) l2) aug_imp
      · cases c1
    · cases c
  · split at c
    · rename_i t p v pos
      obtain ⟨c, c3⟩ := bnd c
      obtain ⟨c1, c2⟩ := bnd c
      obtain rfl := bopB_ok c2
      split at c1
      · rename_i a j tpos
        obtain ⟨c1, d3⟩ := bnd c1
        obtain ⟨d1, d2⟩ := bnd c1
        exact PS.imp (ps_augS (ih.mE N X sc sc k.down _ _ d1) (ih.mE N X sc sc k.down _ _ d2) (get_aug k.hK) (ih.mE N X sc sc k.down _ v c3) (ip_aug (g := g) _) (setA_list (g := g)) (fun ov iv nw => augNot (notb d3) ov iv nw)) augX_imp
      · cases c1
    · cases c
  · split at c
    · obtain ⟨c1, c2⟩ := bnd c
      exact PS.imp (ps_expr (ih.mE N X sc sc k.down _ _ c1) (comp_no (notb c2))) drop_imp
    · cases c
  · split at c
    · rename_i t it body orelse pos
      obtain ⟨c, c7⟩ := bnd c
      obtain ⟨c, c6⟩ := bnd c
      obtain ⟨c, c5⟩ := bnd c
      obtain ⟨c, c4⟩ := bnd c
      obtain ⟨c, c3⟩ := bnd c
      obtain ⟨c1, c2⟩ := bnd c
      cases orelse with
      | cons _ _ => cases c5
      | nil => exact PS.imp (ps_for hp k.calm (ih.mI N X sc sc k.down _ it t c1 c3) (pg_gV k.down c2) (ih.mSs N X sc k.down hp _ body c4) (fun x => foldNot (notb c6))) (for_imp k.hK fun o i e => by subst e; cases c7)
    · cases c
  · split at c
    · rename_i cc body orelse pos
      obtain ⟨c, c3⟩ := bnd c
      obtain ⟨c1, c2⟩ := bnd c
      cases orelse with
      | cons _ _ => cases c3
      | nil => exact PS.imp (ps_while hp (ih.mT N X sc sc k.down _ cc c1) (ih.mSs N X sc k.down hp _ body c2)) wh_imp
    · cases c
  · split at c
    · obtain ⟨c, c3⟩ := bnd c
      obtain ⟨c1, c2⟩ := bnd c
      exact PS.imp (ps_if (ih.mT N X sc sc k.down _ _ c1) (ih.mSs N X sc k.down hp _ _ c2) (ih.mSs N X sc k.down hp _ _ c3)) if_imp
    · cases c
  · split at c
    · split at c
      · exact PS.imp (ps_ret (ih.mE N X sc sc k.down _ _ c)) ret_imp
      · cases c
    · cases c
  · split at c
    · rename_i v pos
      cases v with
      | some _ => cases c
      | none => exact PS.imp ps_retN fun D' σ H ⟨ρ, h, sg, sim, er, hr⟩ => hr ρ H .non (Mono.refl _ _ _) sim (.pure .non)
    · cases c
  · exact PS.imp ps_never fun D' σ H ⟨ρ, h, sg, sim, er, hr⟩ => (show False from hr)
  · split at c
    · exact PS.imp ps_pass fun D' σ H ⟨ρ, h, sg, sim, er, hr⟩ => hr ρ H σ (Mono.refl _ _ _) sim er
    · split at c
      · exact PS.imp ps_doc fun D' σ H ⟨ρ, h, sg, sim, er, hr⟩ => hr ρ H σ (Mono.refl _ _ _) sim er
      · cases c
    · cases c
  · split at c
    · exact PS.imp ps_break fun D' σ H ⟨ρ, h, sg, sim, er, hr⟩ => hr ρ H σ (Mono.refl _ _ _) sim er
    · cases c
  · split at c
    · exact PS.imp ps_continue fun D' σ H ⟨ρ, h, sg, sim, er, hr⟩ => hr ρ H σ (Mono.refl _ _ _) sim er
    · cases c
  · cases c
theorem m_Ss (ih : Main P g M n) (k : XOk P g M N X sc sc (n + 1)) (hp : PassesOwn (model X.prog X.w) X.A X.env X.xe) (i : I) (ss : List Stmt) (c : ckSs M N sc i ss = true) : PSs X ss (tS P g (n + 1) i) := by
  unfold ckSs at c
  split at c
  · cases ss with
    | cons _ _ => cases c
    | nil => exact PSs.imp pss_nil fun D' σ H ⟨ρ, h, sg, sim, er, hr⟩ => hr ρ H σ (Mono.refl _ _ _) sim er
  · exact PSs.imp pss_never fun D' σ H ⟨ρ, h, sg, sim, er, hr⟩ => (show False from hr)
  · split at c
    · obtain ⟨c1, c2⟩ := bnd c
      exact PSs.imp (pss_cons (ih.mS N X sc k.down hp _ _ c1) (ih.mSs N X sc k.down hp _ _ c2)) seq_imp
    · cases c
  · cases c
end
end Ev
-- EvV0
/-! lead_of -/
namespace Ev
open PySem PySem.Spec PyProof.Rows L2
theorem fst_pass : ∀ (ns : List Int), ((List.range ns.length).filter (pzN ns))[0]? = fstO ns
  | [] => rfl
  | x :: xs => by
    rw [List.length_cons, List.range_succ_eq_map, List.filter_cons]
    unfold fstO
    have hp : pzN (x :: xs) 0 = (x != 0) := rfl
    cases c : decide (x = 0) with
    | true =>
      have := of_decide_eq_true c
      subst this
      rw [hp]
      have hm : (List.map Nat.succ (List.range xs.length)).filter (pzN (0 :: xs)) = ((List.range xs.length).filter (pzN xs)).map Nat.succ := by
        rw [List.filter_map]
        rfl
      have e0 : ((0 : Int) != 0) = false := by decide
      rw [e0, hm]
      simp only [Bool.false_eq_true, if_false, List.getElem?_map, fst_pass xs]
      cases fstO xs <;> rfl
    | false =>
      have := of_decide_eq_false c
      have e0 : (x != 0) = true := by simpa using this
      rw [hp, e0]
      rfl
section
variable {P : Pg} {g : G} {M : Nm} {N : List Str} {X : Cx} {sc so : Scope} {n : Nat}
theorem fstV_rep {H : Hp} (ns : List Int) : RepP g H (fstD ns) (fstV ns) := by
  have e : (passing (pzN ns) ns.length 0)[0]? = fstO ns := by
    unfold passing
    rw [List.drop_zero]
    exact fst_pass ns
  unfold fstD fstV
  rw [e]
  cases fstO ns with
  | none => exact .non
  | some i => exact .int _
theorem lookup_memN {x : Str} {k : NameKind} : ∀ {l : List (Str × NameKind)}, l.lookup x = some k → (x, k) ∈ l
  | (y, j) :: l, h => by
    rw [List.lookup_cons] at h
    cases c : x == y with
    | true =>
      rw [c] at h
      cases h
      rw [beq_iff_eq.mp c]
      exact List.mem_cons_self ..
    | false =>
      rw [c] at h
      exact List.mem_cons_of_mem _ (lookup_memN h)
  | [], h => by cases h
theorem genS_ok {env : Env} {gsc : Scope} {xa xb : Str} (h : genS gsc xa xb = true) : GenS2 env gsc xa xb := by
  unfold genS at h
  obtain ⟨h, h9⟩ := bnd h
  obtain ⟨h, h8⟩ := bnd h
  obtain ⟨h, h7⟩ := bnd h
  obtain ⟨h, h6⟩ := bnd h
  obtain ⟨h, h5⟩ := bnd h
  obtain ⟨h, h4⟩ := bnd h
  obtain ⟨h, h3⟩ := bnd h
  obtain ⟨h1, h2⟩ := bnd h
  have al : ∀ y ∈ gsc.names, y.2 = .local := fun y hy => by
    have z := List.all_eq_true.mp h3 y hy
    split at z
    · assumption
    · cases z
  have lk : ∀ {x : Str}, locC gsc x = true → gsc.names.lookup x = some .local := fun {x} hx => by
    unfold locC at hx
    split at hx
    · assumption
    · rename_i e
      have := al _ (lookup_memN e)
      cases this
    · cases hx
  refine ⟨?_, notb h2, fun y hy e => ?_, lk h4, lk h5, lk h6, of_decide_eq_true h7, notb h8, notb h9, fun y hy e => ?_⟩
  · split at h1
    · assumption
    · cases h1
  · rw [al y hy] at e; cases e
  · rw [al y hy] at e; cases e
theorem leadE_ok (k : XOk P g M N X sc so (n + 1)) {c T : Addr} (hc : X.env.code = .ref c) (ht : (c, T) ∈ g.tb) {e : Expr} (h : leadE M N sc e = true) : PE X e (tFst X.K T (tE P g (n + 1) (.var 0))) := by
  unfold leadE at h
  split at h
  · split at h
    · split at h
      · split at h
        · split at h
          · rename_i fn es ks pos nx p el gs gsc gpos kc j5 p5 xa p1 t it fs as ts kt pt en rs ks2 pc l ops cs pcmp xa2 pa xb pb en2 pe r xb2 p2 jj p3
            obtain ⟨h, h10⟩ := bnd h
            obtain ⟨h, h9⟩ := bnd h
            obtain ⟨h, h8⟩ := bnd h
            obtain ⟨h, h7⟩ := bnd h
            obtain ⟨h, h6⟩ := bnd h
            obtain ⟨h, h5⟩ := bnd h
            obtain ⟨h, h4⟩ := bnd h
            obtain ⟨h, h3⟩ := bnd h
            obtain ⟨h1, h2⟩ := bnd h
            obtain rfl := of_decide_eq_true h3
            obtain rfl := of_decide_eq_true h4
            obtain rfl := of_decide_eq_true h9
            cases fn with
            | cons _ _ => cases h7
            | nil =>
              cases pt with
              | cons _ _ => cases h8
              | nil =>
                obtain ⟨rfl, a1, a2, _⟩ := bltB_ok k h1
                obtain ⟨rfl, b1, b2, _⟩ := bltB_ok k h2
                exact pe_fst k.room a1 a2 (k.tbs _ ht) hc (genS_ok h10) b1 b2 (s_var k h5) (notb h6) fun v => rfl
          · cases h
        · cases h
      · cases h
    · cases h
  · cases h
theorem tab_ne {T a : Addr} {H : Hp} {u : HO} (h : GxR.TabG H T) (e : H a = some u) (n : ∀ q, u ≠ .tbl q) : a ≠ T := fun z => by
  subst z
  obtain ⟨ps, h1, _⟩ := h
  rw [e] at h1
  exact n _ (Option.some.inj h1)
theorem mono_tab {T : Addr} {ρ : List Addr} {H H2 : Hp} (h : GxR.TabG H T) (t : GxR.Tabbed T H H2) : Mono g ρ H ρ H2 := by
  have go : ∀ {a : Addr} {u : HO}, H a = some u → (∀ q, u ≠ .tbl q) → H2 a = some u := fun e n => by rw [t.2 _ (tab_ne h e n)]; exact e
  refine ⟨⟨fun a xs q => ?_, fun a xs q => ?_, fun a q => go q (fun _ z => by cases z), fun q hq ⟨ps, q1, q2⟩ => ?_⟩, fun _ _ z => z, fun p o e nt np => ⟨go e nt, np⟩⟩
  · rcases q with ⟨o, q, d⟩ | q
    · exact .inl ⟨o, go q (fun _ z => by cases z), d⟩
    · exact .inr q
  · rcases q with ⟨o, q⟩ | q
    · exact .inl ⟨o, go q (fun _ z => by cases z)⟩
    · exact .inr q
  · by_cases e : q.2 = T
    · rw [e]; exact t.1
    · exact ⟨ps, by rw [t.2 _ e]; exact q1, q2⟩
theorem sim_tab {T : Addr} {ρ : List Addr} {H H2 : Hp} {hh : Hh} (s : Sim g ρ hh H) (h : GxR.TabG H T) (t : GxR.Tabbed T H H2) : Sim g ρ hh H2 :=
  s.grow (mono_tab (ρ := ρ) h t).h fun p _ vs e => by rw [t.2 _ (tab_ne h e (fun _ z => by cases z))]; exact e
end
end Ev
-- EvV
/-! the defs; all depths -/
namespace Ev
open PySem PySem.Spec PyProof.Rows L2
section
variable {P : Pg} {g : G} {M : Nm} {N : List Str} {X : Cx} {sc so : Scope} {n : Nat}
theorem m_L (ih : Main P g M n) (k : XOk P g M N X sc sc (n + 1)) (i : I) (e : Expr) (y : Str) (py pos : Pos) (j : Nat) (c : ckE M N sc i e = true) (hl : lcB sc (.Name y py) e = some true) (hj : N[j]? = some y) : PS X (.Assign [.Name y py] e pos) (tAsg (tE P g (n + 1) i) (gName j)) := by
  have hs := lcB_ok (env := X.env) (l := pos.line) k.hsc k.kind hl
  cases e with
  | ListComp elt gs s p =>
    have hy : sc.names.lookup y = some .local := by
      have z := Option.some.inj hl
      obtain ⟨z, _⟩ := bnd z
      obtain ⟨z, _⟩ := bnd z
      simpa using z
    cases i with
    | lc tg it ifs v own =>
      refine lc_parts ih k c fun elt' t iter fs scope pos' ow e hi ok hg ht he hs' imp => ?_
      cases e
      refine PS.imp (ps_setLc k.calm (by rw [k.hN]; exact k.nd) (by rw [k.hN]; exact hj) (by rw [k.hsc]; exact hy) hs hi ok hg ht he hs') fun D σ H hr => ?_
      exact imp _ _ _ hr
    | lc2 tg it tg1 it1 ifs v own own1 =>
      refine lc2_parts ih k c fun elt' t iter t1 iter1 fs scope pos' ow e hi ok h3 hg ht hi1 hg1 ht1 he hs' hs1 imp => ?_
      cases e
      refine PS.imp (ps_setLc2 k.calm (by rw [k.hN]; exact k.nd) (by rw [k.hN]; exact hj) (by rw [k.hsc]; exact hy) hs hi ok h3 hg ht hi1 hg1 ht1 he hs' hs1) fun D σ H hr => ?_
      exact imp _ _ _ hr
    | frz a => unfold ckE at c; cases (bnd c).1
    | _ => cases c
  | SetComp _ _ _ _ => cases hl
  | DictComp _ _ _ _ _ => cases hl
  | _ => cases hl
theorem call_len {f : Nat} {ds : List D} {h : Hh} {F : Fd} {ρ : List Addr} {H : Hp} {k : Kt} (e : P.fs[f]? = some F) (hr : Run g ρ H k (callF P n f ds h)) : ds.length = F.ar ∧ F.ar ≤ F.sz ∧ Run g ρ H k (called (ev P n F.body (ds ++ List.replicate (F.sz - F.ar) .una) h) h.length) := by
  unfold callF at hr
  rw [e] at hr
  dsimp only at hr
  unfold entry at hr
  cases z : (Nat.beq ds.length F.ar && Nat.ble F.ar F.sz) with
  | false => rw [z] at hr; exact (show False from hr).elim
  | true =>
    rw [z] at hr
    obtain ⟨z1, z2⟩ := bnd z
    exact ⟨Nat.eq_of_beq_eq_true z1, Nat.le_of_ble_eq_true z2, hr⟩
theorem entry_env {ρ : List Addr} {H : Hp} {ds : List D} {vs : List V} {N : List Str} {k : Nat} (r : Reps g ρ H ds vs) (hk : k = N.length - vs.length) : EnvR g ρ H (ds ++ List.replicate k .una) (L2.start N vs) := by
  subst hk
  unfold L2.start
  refine ⟨by simp [r.length], fun i d e u => ?_⟩
  by_cases hi : i < ds.length
  · rw [List.getElem?_append_left hi] at e
    obtain ⟨v, h1, h2⟩ := r.get e
    refine ⟨v, ?_, h2⟩
    rw [List.getElem?_append_left (by rw [List.length_map, ← r.length]; exact hi), List.getElem?_map, h1]
    rfl
  · rw [List.getElem?_append_right (by omega), List.getElem?_replicate] at e
    split at e
    · cases e; cases u
    · cases e
/-- behind a call -/
theorem back_run {ρ : List Addr} {h : Hh} {H : Hp} {Q : VK} {d : D} {h' : Hh} (sim : Sim g ρ h H) (hr : Run g ρ H (ke Q) (back h.length d h')) : ∀ (ρ' : List Addr) (H' : Hp) (v : V), Mono g ρ H ρ' H' → Sim g ρ' h' H' → Rep g ρ' H' d v → Q v H' := by
  intro ρ' H' v m s r
  have take : Mono g ρ H (ρ'.take h.length) H' := by
    refine ⟨m.h, fun i p e => ?_, fun p o e nt np => ?_⟩
    · have hl : i < h.length := by rw [← sim.len]; exact (List.getElem?_eq_some_iff.mp e).1
      rw [List.getElem?_take_of_lt hl]
      exact m.pf i p e
    · obtain ⟨q1, q2⟩ := m.ou p o e nt np
      exact ⟨q1, fun hm => q2 (List.mem_of_mem_take hm)⟩
  cases d with
  | ptr a =>
    obtain ⟨p, rfl, hp⟩ := r.ptr'
    have hr : Run g ρ H (ke Q) (match Nat.blt a h.length with
      | true => .ok (.ptr a) (h'.take h.length)
      | false => match h'[a]? with
        | some ds => match ds.any isPtr with
          | true => .ok (.ptr a) h'
          | false => .ok (.ptr h.length) (h'.take h.length ++ [ds])
        | none => .no) := hr
    cases e : Nat.blt a h.length with
    | true =>
      rw [e] at hr
      have hl : a < h.length := Nat.le_of_ble_eq_true e
      exact hr _ H' _ take (s.take _) (.ptr (by rw [List.getElem?_take_of_lt hl]; exact hp))
    | false =>
      rw [e] at hr
      have hl : h.length ≤ a := by
        cases Nat.lt_or_ge a h.length with
        | inl l =>
          have z : Nat.blt a h.length = true := Nat.ble_eq_true_of_le (show a + 1 ≤ h.length from l)
          rw [z] at e
          cases e
        | inr l => exact l
      obtain ⟨ds, vs, e1, e2, e3⟩ := sim_at s hp
      dsimp only at hr
      rw [e1] at hr
      dsimp only at hr
      cases e4 : ds.any isPtr with
      | true =>
        rw [e4] at hr
        exact hr ρ' H' _ m s (.ptr hp)
      | false =>
        rw [e4] at hr
        have np : p ∉ ρ'.take h.length := fun hm => by
          obtain ⟨i, hi⟩ := List.getElem?_of_mem hm
          have il : i < h.length := by
            have := (List.getElem?_eq_some_iff.mp hi).1
            rw [List.length_take] at this
            omega
          have hi' := take_pf ρ' h.length i p hi
          have l1 := List.getElem?_eq_some_iff.mp hi'
          have l2 := List.getElem?_eq_some_iff.mp hp
          have := (List.getElem_inj s.nd).mp (l1.2.trans l2.2.symm)
          omega
        obtain ⟨s2, e5⟩ := (s.take h.length).adopt e2 np (e3.toP e4).reps
        have hl2 : (h'.take h.length).length = h.length := by
          have := (List.getElem?_eq_some_iff.mp e1).1
          rw [List.length_take]
          omega
        rw [hl2] at e5
        refine hr _ H' _ ⟨take.h, fun i q z => ?_, fun q o z nt nq => ?_⟩ s2 (.ptr e5)
        · have := take.pf i q z
          rw [List.getElem?_append_left (List.getElem?_eq_some_iff.mp this).1]
          exact this
        · obtain ⟨q1, q2⟩ := m.ou q o z nt nq
          refine ⟨q1, fun hm => ?_⟩
          rcases List.mem_append.mp hm with hm | hm
          · exact q2 (List.mem_of_mem_take hm)
          · simp at hm
            subst hm
            exact q2 (List.mem_of_getElem? hp)
  | mtp ds => exact hr ρ' H' v m s r
  | una => exact (show False from hr).elim
  | _ => exact hr _ H' v take (s.take _) (by
      cases r with
      | pure r => exact .pure r)
theorem body_imp {F : Fd} {vs : List V} {ρ : List Addr} {h : Hh} {H : Hp} {Q : VK} {N : List Str} {sg : Sg} (sim : Sim g ρ h H) (er : EnvR g ρ H sg (L2.start N vs)) (hr : Run g ρ H (ke Q) (called (ev P n F.body sg h) h.length)) :
    tS P g n F.body { nx := fun _ H' => Q .non H', rt := Q } (L2.start N vs) H := by
  refine ⟨ρ, h, sg, sim, er, ?_⟩
  cases e : ev P n F.body sg h with
  | rt d h' =>
    rw [e] at hr
    exact back_run sim hr
  | nx sg' h' =>
    rw [e] at hr
    intro ρ' H' σ' m s er'
    refine hr (ρ'.take h.length) H' .non ⟨m.h, fun i p e => ?_, fun p o e nt np => ?_⟩ (s.take _) (.pure .non)
    · have hl : i < h.length := by rw [← sim.len]; exact (List.getElem?_eq_some_iff.mp e).1
      rw [List.getElem?_take_of_lt hl]
      exact m.pf i p e
    · obtain ⟨q1, q2⟩ := m.ou p o e nt np
      exact ⟨q1, fun hm => q2 (List.mem_of_mem_take hm)⟩
  | _ => rw [e] at hr; exact (show False from hr).elim
theorem lead_run {K : PySem.W.Frag} {ρ : List Addr} {h : Hh} {H : Hp} {Q : VK} {vs : List V} {ds : List D} {T : Addr} {c : Addr} (j : Nat) (sim : Sim g ρ h H) (er : EnvR g ρ H ds (L2.start N vs)) (hK : K = g.K) (hT : (c, T) ∈ g.tb) (hr : Run g ρ H (ke Q) (called (ev P n leadI ds h) h.length)) :
    tRet (tFst K T (tE P g (j + 1) (.var 0))) { nx := fun _ H' => Q .non H', rt := Q } (L2.start N vs) H := by
  cases n with
  | zero => exact (show False from hr).elim
  | succ n =>
    cases n with
    | zero => exact (show False from hr).elim
    | succ n =>
      cases n with
      | zero => exact (show False from hr).elim
      | succ n =>
        cases n with
        | zero => exact (show False from hr).elim
        | succ n =>
          refine ⟨ρ, h, ds, sim, er, ?_⟩
          have hr : Run g ρ H (ke Q) (called ((((getV ds 0 h).on fun x h1 => match itemsOf h1 x with
            | some ds => match intsD ds with
              | some is => R.ok (fstD is) h1
              | none => R.no
            | none => R.no).on fun d h1 => R.rt d h1).onx fun σ1 h1 => ev P (n + 3) .sNil σ1 h1) h.length) := hr
          show Run g ρ H _ (getV ds 0 h)
          cases e : getV ds 0 h with
          | ok d h1 =>
            rw [e] at hr
            have hr : Run g ρ H (ke Q) (called (((match itemsOf h1 d with
              | some ds => match intsD ds with
                | some is => R.ok (fstD is) h1
                | none => R.no
              | none => R.no).on fun d h1 => R.rt d h1).onx fun σ1 h1 => ev P (n + 3) .sNil σ1 h1) h.length) := hr
            intro ρ' H' v m s r
            cases c1 : itemsOf h1 d with
            | none => rw [c1] at hr; exact (show False from hr).elim
            | some es =>
              rw [c1] at hr
              dsimp only at hr
              cases c2 : intsD es with
              | none => rw [c2] at hr; exact (show False from hr).elim
              | some is =>
                rw [c2] at hr
                have hr : Run g ρ H (ke Q) (back h.length (fstD is) h1) := hr
                obtain ⟨a, ws, rfl, q, rr⟩ := items_kind s r c1
                obtain rfl := ints_ok c2 rr
                have tb := s.tb _ hT
                exact ⟨isL d, a, is, rfl, by rw [hK]; exact q, tb, fun H2 t => back_run sim hr ρ' H2 _ (m.trans (mono_tab tb t)) (sim_tab s tb t) (.pure (fstV_rep is))⟩
          | _ => rw [e] at hr; exact (show False from hr).elim
/-- lead_of as a def -/
theorem lead_fn (k : XOk P g M N X sc so (n + 1)) {f : Nat} {x : Str} {ps N' : List Str} {qual : Str} {params : Arguments} {body : List Stmt} {scope : Scope} {fd : FuncData} {c T : Addr} {F : Fd} (hF : P.fs[f]? = some F) (FD : FunD X.K x qual params body scope [] [] (g.fa f) fd) (S : FnScope N' ps scope) (ck : leadS M N' scope body = true)
    (l1 : ps.length = 1) (l2 : N'.length = 1) (eF : F = ⟨1, 1, leadI⟩) (hT : (c, T) ∈ g.tb) (hc : fd.code = .ref c) : FnOk X.prog X.w X.K X.mg X.base CX0 (n + 1) (g.fa f) fd ps (spEv P g n f) := by
  subst eF
  obtain ⟨oc, od, dV, kV, doc, pm, an, cdv, ct, osl, rfl, lk, hcd, _, _⟩ := FD.ex
  have hc : cdv = .ref c := hc
  subst hc
  refine fn_of lk hcd S (fun vs H Q E ⟨ρ, h, ds, sim, rr, hr⟩ => ?_) fun A outer s H vs Q E room ⟨ρ, h, ds, sim, rr, hr⟩ => ?_
  · obtain ⟨z1, z2, z3⟩ := call_len hF hr
    rw [← rr.length, z1, l1]
  · obtain ⟨z1, z2, z3⟩ := call_len hF hr
    unfold leadS at ck
    split at ck
    · rename_i e pos
      cases n with
      | zero => exact (show False from z3).elim
      | succ n =>
        have kX : XOk P g M N' (cxOf CX0 X.prog X.w X.K X.mg X.base N' qual scope (g.fa f) (.ref c) A outer s H E) scope scope (n + 1) := ⟨k.hK, rfl, rfl, S.nd, rfl, room, k.mg, fun x e => e, fun x e => ⟨e, rfl⟩, S.kind, k.pg, k.tbs⟩
        have z3 : Run g ρ H (ke Q) (called (ev P (n + 1) leadI (ds ++ []) h) h.length) := z3
        rw [List.append_nil] at z3
        refine ⟨_, pss_one (ps_ret (leadE_ok kX rfl hT ck)), lead_run n sim ?_ k.hK hT z3⟩
        have z1' : ds.length = 1 := z1
        have z0 : 0 = N'.length - vs.length := by have := rr.length; omega
        have z := entry_env (N := N') (k := 0) rr z0
        rw [List.replicate_zero, List.append_nil] at z
        exact z
    · cases ck
theorem m_F (hS : ∀ (N : List Str) (X : Cx) (sc : Scope), XOk P g M N X sc sc n → PassesOwn (model X.prog X.w) X.A X.env X.xe → ∀ (i : I) (ss : List Stmt), ckSs M N sc i ss = true → PSs X ss (tS P g n i)) (k : XOk P g M N X sc so (n + 1)) : FnsOk P g M X n := by
  intro f x ps hf
  obtain ⟨F, hF, D | D⟩ := k.pg f x ps hf
  · obtain ⟨N', qual, params, body, scope, fd, FD, S, ck, l1, l2, B⟩ := D.ex
    refine ⟨fd, FD.ok S (fun vs H Q E ⟨ρ, h, ds, sim, rr, hr⟩ => ?_) (fun cdv A outer s H vs Q E room ⟨ρ, h, ds, sim, rr, hr⟩ => ?_), B⟩
    · obtain ⟨z1, z2, z3⟩ := call_len hF hr
      rw [← rr.length, z1, l1]
    · obtain ⟨z1, z2, z3⟩ := call_len hF hr
      refine ⟨_, hS N' (cxOf CX0 X.prog X.w X.K X.mg X.base N' qual scope (g.fa f) cdv A outer s H E) scope ⟨k.hK, rfl, rfl, S.nd, rfl, room, k.mg, fun x e => e, fun x e => ⟨e, rfl⟩, S.kind, k.pg, k.tbs⟩ (passes_of (K := fun e s'' => CX0 outer H s E e s'') rfl) F.body body ck, body_imp sim (entry_env rr ?_) z3⟩
      rw [l2, ← rr.length, z1]
  · obtain ⟨N', qual, params, body, scope, fd, c, T, FD, S, ck, l1, l2, eF, B, hT, hc⟩ := D.ex
    refine ⟨fd, lead_fn k hF FD S ck l1 l2 eF hT hc, B⟩
theorem s_dct (k : XOk P g M N X sc so (n + 1)) {e : Expr} (c : ckE M N sc .dct e = true) : PE X e (tE P g (n + 1) .dct) := by
  unfold ckE at c
  split at c
  · split at c
    · refine PE.imp pe_dnewK fun σ H Q hr => ?_
      obtain ⟨ρ, h, sg, sim, er, hr⟩ := hr
      exact fun p np => hr ρ _ (.ref p) (Mono.new np) (sim.new np) (.pure (.emp upd_same))
    · cases c
  · cases c
theorem m_E (ih : Main P g M n) (k : XOk P g M N X sc so (n + 1)) (i : I) (e : Expr) (c : ckE M N sc i e = true) : PE X e (tE P g (n + 1) i) := by
  cases i with
  | var i => exact s_var k c
  | cst d => exact s_cst k c
  | glb j => exact s_glb k c
  | gdx j i => exact s_gdx ih k c
  | tup a => exact s_tup ih k c
  | lst a => exact s_lst ih k c
  | dct => exact s_dct k c
  | bin o a b => exact s_bin ih k c
  | neg a => exact s_neg ih k c
  | cmp o a b => exact s_cmp ih k c
  | chn o p a b c' => exact s_chn ih k c
  | and a b => exact s_and ih k c
  | or a b => exact s_or ih k c
  | not a => exact s_not ih k c
  | ife t a b => exact s_ife ih k c
  | ix a i => exact s_ix ih k c
  | sl a lo hi => exact s_sl ih k c
  | cal f a => exact s_cal ih k c
  | blt b a => exact s_blt ih k c
  | isi b a => exact s_isi ih k c
  | app o v => exact s_app ih k c
  | ext o v => exact s_ext ih k c
  | pop o => exact s_pop ih k c
  | lc tg it ifs v own => exact s_lc ih k c
  | lc2 tg it tg1 it1 ifs v own own1 => exact s_lc2 ih k c
  | idx o v => exact s_idx ih k c
  | stp a i => exact s_stp ih k c
  | lset a => exact s_lset ih k c
  | frz a => exact s_frz ih k c
  | _ => cases c
theorem main0 (hpg : True) : Main P g M 0 where
  mE := fun N X sc so k i e c => ⟨fun pins s σ H Q I ⟨ρ, h, sg, sim, er, hr⟩ => (show False from hr).elim⟩
  mT := fun N X sc so k i e c => ⟨fun pins s σ H Q I ⟨ρ, h, sg, sim, er, hr⟩ => (show False from hr).elim⟩
  mA := fun N X sc so k i e c => ⟨fun pos pins s σ H Q I ⟨ρ, h, sg, sim, er, hr⟩ => (show False from hr).elim⟩
  mI := fun N X sc so k i e t c c2 => ⟨fun pins s σ H Q I ⟨ρ, h, sg, sim, er, hr⟩ => (show False from hr).elim⟩
  mAnd := fun N X sc so k i es pos c => ⟨fun pins s σ H Q I ⟨ρ, h, sg, sim, er, hr⟩ => (show False from hr).elim⟩
  mOr := fun N X sc so k i es pos c => ⟨fun pins s σ H Q I ⟨ρ, h, sg, sim, er, hr⟩ => (show False from hr).elim⟩
  mTAnd := fun N X sc so k i es pos c => ⟨fun wh pins s σ H Q I ⟨ρ, h, sg, sim, er, hr⟩ => (show False from hr).elim⟩
  mTOr := fun N X sc so k i es pos c => ⟨fun wh pins s σ H Q I ⟨ρ, h, sg, sim, er, hr⟩ => (show False from hr).elim⟩
  mO := fun N X sc so k i o c => ⟨fun pins s σ H Q I ⟨ρ, h, sg, sim, er, hr⟩ => (show False from hr).elim⟩
  mL := fun N X sc k i e y py pos j c hl hj => ⟨fun pins s σ H D I ⟨ρ, h, sg, sim, er, hr⟩ => (show False from hr).elim⟩
  mS := fun N X sc k hp i s c => ⟨fun pins s σ H D I ⟨ρ, h, sg, sim, er, hr⟩ => (show False from hr).elim⟩
  mSs := fun N X sc k hp i ss c => ⟨fun pins s σ H D I ⟨ρ, h, sg, sim, er, hr⟩ => (show False from hr).elim⟩
  mF := fun N X sc so k => m_F (fun N X sc k hp i ss c => ⟨fun pins s σ H D I ⟨ρ, h, sg, sim, er, hr⟩ => (show False from hr).elim⟩) k
theorem main : ∀ n, Main P g M n
  | 0 => main0 trivial
  | n + 1 => by
    have ih := main n
    have hS := fun (N : List Str) (X : Cx) (sc : Scope) (k : XOk P g M N X sc sc (n + 1)) hp i ss c => m_Ss (i := i) (ss := ss) ih k hp c
    exact {
      mE := fun N X sc so k i e c => m_E ih k i e c
      mT := fun N X sc so k i e c => m_T ih k i e c
      mA := fun N X sc so k i e c => m_A ih k i e c
      mI := fun N X sc so k i e t c c2 => m_I ih k i e t c c2
      mAnd := fun N X sc so k i es pos c => m_And ih k i es pos c
      mOr := fun N X sc so k i es pos c => m_Or ih k i es pos c
      mTAnd := fun N X sc so k i es pos c => m_TAnd ih k i es pos c
      mTOr := fun N X sc so k i es pos c => m_TOr ih k i es pos c
      mO := fun N X sc so k i o c => m_O ih k i o c
      mL := fun N X sc k i e y py pos j c hl hj => m_L ih k i e y py pos j c hl hj
      mS := fun N X sc k hp i s c => m_S ih k hp i s c
      mSs := hS
      mF := fun N X sc so k => m_F hS k }
end
end Ev
-- EvW
namespace Ev
open PySem PySem.Spec PyProof.Rows L2
theorem zip_look : ∀ {ps : List Str} {us : List Value} {x : Str}, us.length = ps.length → x ∈ ps → ∃ u, (ps.zip us).lookup x = some u
  | p :: ps, u :: us, x, hl, hx => by
    rw [List.zip_cons_cons, List.lookup_cons]
    cases h : x == p with
    | true => exact ⟨u, rfl⟩
    | false =>
      have : x ∈ ps := by
        rcases List.mem_cons.mp hx with e | e
        · subst e; simp at h
        · exact e
      exact zip_look (by simpa using hl) this
  | [], _, _, _, hx => by cases hx
  | _ :: _, [], _, hl, _ => by cases hl
theorem fm_congr {α β : Type} {f g : α → Option β} : ∀ {l : List α}, (∀ x ∈ l, f x = g x) → l.filterMap f = l.filterMap g
  | [], _ => rfl
  | a :: l, h => by
    rw [List.filterMap_cons, List.filterMap_cons, h a (List.mem_cons_self ..), fm_congr fun x hx => h x (List.mem_cons_of_mem _ hx)]
theorem zip_back : ∀ {ps : List Str} {us : List Value}, us.length = ps.length → ps.Nodup → (ps.filterMap fun n => ((ps.zip us).lookup n).map (n, ·)) = ps.zip us
  | [], us, hl, _ => by cases us <;> rfl
  | p :: ps, [], hl, _ => by cases hl
  | p :: ps, u :: us, hl, nd => by
    obtain ⟨n1, n2⟩ := List.nodup_cons.mp nd
    have ih := zip_back (ps := ps) (us := us) (by simpa using hl) n2
    have e : ((p :: ps).filterMap fun n => (((p :: ps).zip (u :: us)).lookup n).map (n, ·)) = (p, u) :: (ps.filterMap fun n => (((p :: ps).zip (u :: us)).lookup n).map (n, ·)) := by
      rw [List.filterMap_cons, List.zip_cons_cons, List.lookup_cons, beq_self_eq_true]
      rfl
    rw [e]
    have e2 : (ps.filterMap fun n => (((p :: ps).zip (u :: us)).lookup n).map (n, ·)) = ps.filterMap fun n => ((ps.zip us).lookup n).map (n, ·) := fm_congr fun x hx => by
      have : (x == p) = false := by
        cases h : x == p with
        | false => rfl
        | true => exact absurd (by rw [← beq_iff_eq.mp h]; exact hx) n1
      rw [List.zip_cons_cons, List.lookup_cons, this]
    rw [e2, ih]
    rfl
def argsB (ps : List Str) (p : Arguments) : Bool := match p with
  | ⟨[], as, none, [], [], none, []⟩ => decide (as.map (·.arg) = ps) && decide ps.Nodup
  | _ => false
theorem binds_ok {x qual : Str} {params : Arguments} {body : List Stmt} {scope : Scope} {ps : List Str} (h : argsB ps params = true) (kV doc pm : Value) (an : Option Addr) (cdv ct : Value) (us : List Value) (hl : us.length = ps.length) :
    bindArgs (PySem.W.fnOf x qual params body scope .none kV doc pm an cdv ct) ⟨us, []⟩ = pure (ps.zip us) := by
  unfold argsB at h
  split at h
  · rename_i as
    obtain ⟨h1, h2⟩ := Bool.and_eq_true_iff.mp h
    have h1 := of_decide_eq_true h1
    have h2 := of_decide_eq_true h2
    have e1 : (PySem.W.fnOf x qual ⟨[], as, none, [], [], none, []⟩ body scope .none kV doc pm an cdv ct).params = ⟨[], as, none, [], [], none, []⟩ := rfl
    have e2 : (PySem.W.fnOf x qual ⟨[], as, none, [], [], none, []⟩ body scope .none kV doc pm an cdv ct).defaults = .none := rfl
    have mis : ((ps.take ps.length).filter fun n => ((ps.zip us).lookup n).isNone) = [] := by
      rw [List.take_length]
      refine List.filter_eq_nil_iff.mpr fun a ha => ?_
      obtain ⟨u, hu⟩ := zip_look hl ha
      rw [hu]
      simp
    have bk := zip_back hl h2
    have ng : ¬ (us.length > ps.length ∧ True) := by omega
    unfold bindArgs
    simp only [e1, e2, List.map_nil, List.nil_append, h1, List.forIn_nil, pure_bind, List.append_nil]
    have sq : (seqItems? .none : Sem (Option (Array Value))) = pure none := rfl
    rw [sq]
    simp only [pure_bind, Option.getD_none, List.drop_nil, List.length_nil, Nat.sub_zero, mis, List.isEmpty_nil, List.zip_nil_right, List.forIn_nil, bk, hl, Nat.lt_irrefl, gt_iff_lt, decide_false, Bool.false_and, Bool.false_eq_true, if_false, Bool.not_true, Nat.zero_sub]
  · cases h
/-! a law's table: its defs, names, constants -/
structure DefR where
  name : Str
  ps : List Str
  N : List Str
  st : Stmt
  F : Fd
  ld : Bool
def DefR.dd (r : DefR) : He.DefD := ⟨(r.name, none), r.name, r.name, defArgs r.st, defBody r.st, defScope r.st, [], []⟩
def scopeB (N ps : List Str) (sc : Scope) : Bool := (match sc.kind with | .function => true | _ => false) && !sc.isCoroutine && !sc.isGenerator && decide N.Nodup && decide (N.take ps.length = ps) &&
  (ps.all fun x => locC sc x) && sc.names.all fun y => !(match y.2 with | .free => true | _ => false)
theorem scopeB_ok {N ps : List Str} {sc : Scope} (h : scopeB N ps sc = true) : FnScope N ps sc := by
  unfold scopeB at h
  obtain ⟨h, h7⟩ := bnd h
  obtain ⟨h, h6⟩ := bnd h
  obtain ⟨h, h5⟩ := bnd h
  obtain ⟨h, h4⟩ := bnd h
  obtain ⟨h, h3⟩ := bnd h
  obtain ⟨h1, h2⟩ := bnd h
  refine ⟨?_, notb h2, notb h3, of_decide_eq_true h4, of_decide_eq_true h5, fun x hx => ?_, fun y hy e => ?_⟩
  · split at h1
    · assumption
    · cases h1
  · have z := List.all_eq_true.mp h6 x hx
    unfold locC at z
    split at z
    · exact .inl (by assumption)
    · exact .inr (by assumption)
    · cases z
  · have z := List.all_eq_true.mp h7 y hy
    rw [e] at z
    cases z
structure Lw where
  rs : List DefR
  free : List Str
  cs : List (Str × D)
  ds : List (Str × List (Int × D))
def Lw.P (L : Lw) : Pg := ⟨L.rs.map (·.F), L.cs.map (·.2), L.ds.map (·.2)⟩
def Lw.M (L : Lw) : Nm := ⟨L.rs.map fun r => (r.name, r.ps), L.cs.map (·.1), L.ds.map (·.1), L.free⟩
def Lw.tb (L : Lw) (K : PySem.W.Frag) : List (Addr × Addr) := (L.rs.filter (·.ld)).filterMap fun r => PySem.W.tabIn K r.name
def Lw.g (L : Lw) (K : PySem.W.Frag) : G := ⟨K, fun f => He.ga K ((L.rs.map (·.name)).getD f ""), L.tb K⟩
def Lw.fa (L : Lw) : List He.Fa := (L.rs.map fun r => .glo r.name) ++ L.free.map .free
def Lw.fn (L : Lw) : List He.DefD := L.rs.map DefR.dd
def okN (M : Nm) (r : DefR) : Bool := scopeB r.N r.ps (defScope r.st) && ckSs M r.N (defScope r.st) r.F.body (defBody r.st) && decide (r.ps.length = r.F.ar) && decide (r.N.length = r.F.sz) && argsB r.ps (defArgs r.st)
def isLead (F : Fd) : Bool := match F with
  | ⟨1, 1, .sCons (.sRet (.fst0 (.var 0))) .sNil⟩ => true
  | _ => false
theorem isLead_ok {F : Fd} (h : isLead F = true) : F = ⟨1, 1, leadI⟩ := by
  unfold isLead at h
  split at h
  · rfl
  · cases h
def okL (M : Nm) (r : DefR) : Bool := scopeB r.N r.ps (defScope r.st) && leadS M r.N (defScope r.st) (defBody r.st) && decide (r.ps.length = 1) && decide (r.N.length = 1) && argsB r.ps (defArgs r.st) && isLead r.F
def okR (M : Nm) (r : DefR) : Bool := match r.ld with
  | true => okL M r
  | false => okN M r
/-! constants in the written part -/
mutual
def conB (K : PySem.W.Frag) : D → Value → Bool
  | .non, .none => true
  | .bl b, .bool c => b == c
  | .int i, .int j _ => decide (i = j)
  | .str x, .str y _ => decide (x = y)
  | .tup ds, .ref a => (match K.lookup a with
    | some ⟨.type c, none, .seq its _, _⟩ => decide (c = "tuple") && decide (its.size ≤ sizeLine) && conBs K ds its.toList
    | _ => false)
  | _, _ => false
def conBs (K : PySem.W.Frag) : List D → List Value → Bool
  | [], [] => true
  | d :: ds, u :: us => conB K d u && conBs K ds us
  | _, _ => false
end
mutual
theorem conB_ok {g : G} : ∀ {d : D} {u : Value}, conB g.K d u = true → ∃ v, RelV v u ∧ ∀ H, RepP g H d v
  | .non, u, h => by
    cases u <;> first | (cases h; done) | exact ⟨.non, rfl, fun _ => .non⟩
  | .bl b, u, h => by
    cases u with
    | bool c =>
      have : b = c := by simpa using (show (b == c) = true from h)
      subst this
      exact ⟨.bl b, rfl, fun _ => .bl b⟩
    | _ => cases h
  | .int i, u, h => by
    cases u with
    | int j t =>
      obtain rfl := of_decide_eq_true (show decide (i = j) = true from h)
      exact ⟨.int i, ⟨t, rfl⟩, fun _ => .int i⟩
    | _ => cases h
  | .str i, u, h => by
    cases u with
    | str j t =>
      obtain rfl := of_decide_eq_true (show decide (i = j) = true from h)
      exact ⟨.str i, ⟨t, rfl⟩, fun _ => .str i⟩
    | _ => cases h
  | .tup ds, u, h => by
    cases u with
    | ref a =>
      have h : (match g.K.lookup a with
        | some ⟨.type c, none, .seq its _, _⟩ => decide (c = "tuple") && decide (its.size ≤ sizeLine) && conBs g.K ds its.toList
        | _ => false) = true := h
      split at h
      · rename_i c its n sl q
        obtain ⟨h, h3⟩ := bnd h
        obtain ⟨h1, h2⟩ := bnd h
        obtain ⟨vs, r1, r2⟩ := conBs_ok h3
        exact ⟨.ref a, rfl, fun H => .tup (.inr ⟨_, its, n, q, congrArg Value.type (of_decide_eq_true h1), rfl, rfl, of_decide_eq_true h2, r1⟩) (r2 H)⟩
      · cases h
    | _ => cases h
  | .una, u, h => by cases u <;> cases h
  | .ty _, u, h => by cases u <;> cases h
  | .frl _, u, h => by cases u <;> cases h
  | .fn _, u, h => by cases u <;> cases h
  | .ptr _, u, h => by cases u <;> cases h
  | .mtp _, u, h => by cases u <;> cases h
theorem conBs_ok {g : G} : ∀ {ds : List D} {us : List Value}, conBs g.K ds us = true → ∃ vs, Vals vs us ∧ ∀ H, RepPs g H ds vs
  | [], [], _ => ⟨[], .nil, fun _ => .nil⟩
  | [], _ :: _, h => by cases h
  | _ :: _, [], h => by cases h
  | d :: ds, u :: us, h => by
    obtain ⟨h1, h2⟩ := bnd (show (conB g.K d u && conBs g.K ds us) = true from h)
    obtain ⟨v, r1, r2⟩ := conB_ok h1
    obtain ⟨vs, s1, s2⟩ := conBs_ok h2
    exact ⟨v :: vs, .cons r1 s1, fun H => .cons (r2 H) (s2 H)⟩
end
def dicB (K : PySem.W.Frag) (ks : List (Int × D)) (u : Value) : Bool := match u with
  | .ref a => (match K.lookup a with
    | some ⟨.type c, none, .dict es _, sl⟩ => decide (c = "dict") && decide (sl.toList = []) && (es.toList.all fun e => match e.key with | .int j _ => decide (e.hash = hashInt j) | _ => false) &&
      ks.all fun q => match findBy Value.isInt es q.1 with
        | some w => conB K q.2 w
        | none => false
    | _ => false)
  | _ => false
theorem lookI_mem {i : Int} {d : D} : ∀ {ks : List (Int × D)}, lookI i ks = some d → (i, d) ∈ ks
  | (j, e) :: r, h => by
    unfold lookI at h
    cases c : decide (j = i) with
    | true =>
      rw [c] at h
      cases h
      rw [of_decide_eq_true c]
      exact List.mem_cons_self ..
    | false =>
      rw [c] at h
      exact List.mem_cons_of_mem _ (lookI_mem h)
  | [], h => by cases h
theorem dicB_ok {g : G} {ks : List (Int × D)} {u : Value} (h : dicB g.K ks u = true) : ∃ a, u = .ref a ∧ ∀ i d, lookI i ks = some d → ∃ v, KI g.K a i v ∧ ∀ H, RepP g H d v := by
  cases u with
  | ref a =>
    refine ⟨a, rfl, fun i d hd => ?_⟩
    have h : (match g.K.lookup a with
      | some ⟨.type c, none, .dict es _, sl⟩ => decide (c = "dict") && decide (sl.toList = []) && (es.toList.all fun e => match e.key with | .int j _ => decide (e.hash = hashInt j) | _ => false) &&
        ks.all fun q => match findBy Value.isInt es q.1 with
          | some w => conB g.K q.2 w
          | none => false
      | _ => false) = true := h
    split at h
    · rename_i c es n sl q
      obtain ⟨h, h4⟩ := bnd h
      obtain ⟨h, h3⟩ := bnd h
      obtain ⟨h1, h2⟩ := bnd h
      obtain rfl := of_decide_eq_true h1
      have h2 : sl = #[] := by
        have := of_decide_eq_true h2
        cases sl
        simp at this
        subst this
        rfl
      subst h2
      have z := List.all_eq_true.mp h4 (i, d) (lookI_mem hd)
      dsimp only at z
      cases e : findBy Value.isInt es i with
      | none => rw [e] at z; cases z
      | some w =>
        rw [e] at z
        obtain ⟨v, r1, r2⟩ := conB_ok z
        refine ⟨v, ⟨es, n, w, q, fun en hen => ?_, e, r1⟩, r2⟩
        have y := List.all_eq_true.mp h3 en hen
        cases ek : en.key with
        | int j t => rw [ek] at y; exact ⟨j, t, rfl, of_decide_eq_true y⟩
        | _ => rw [ek] at y; cases y
    · cases h
  | _ => cases h
def Lw.cb (L : Lw) (K : PySem.W.Frag) : Bool := (L.cs.all fun q => match PySem.W.nsIn K mainGlobals q.1 with
    | some (some u) => conB K q.2 u
    | _ => false) && L.ds.all fun q => match PySem.W.nsIn K mainGlobals q.1 with
    | some (some u) => dicB K q.2 u
    | _ => false
/-! the hook -/
def isT (o : Obj) : Bool := match o with
  | ⟨.none, none, .fields vs, sl⟩ => decide (vs.toList = []) && decide (sl.toList = [])
  | _ => false
theorem isT_ok {o : Obj} (h : isT o = true) : o = { cls := .none, data := .fields #[] } := by
  unfold isT at h
  split at h
  · rename_i vs sl
    obtain ⟨h1, h2⟩ := bnd h
    have h1 := of_decide_eq_true h1
    have h2 := of_decide_eq_true h2
    cases vs
    cases sl
    cases h1
    cases h2
    rfl
  · cases h
/-- the tables of code objects are no part of what is kept -/
def noT (K : PySem.W.Frag) : PySem.W.Frag := K.filter fun q => !isT q.2
def Lw.tbB (L : Lw) (K : PySem.W.Frag) : Bool := (L.rs.filter (·.ld)).all fun r => match PySem.W.tabIn (noT K) r.name with
  | some (c, T) => PySem.W.codeHdIn (noT K) c T && (match K.lookup T with
    | some o => isT o
    | none => false) && decide (mainGlobals ≠ T)
  | none => false
def Lw.ckb (L : Lw) (K : PySem.W.Frag) : Bool := L.cb (noT K) && L.tbB K
abbrev AlE : Type := He.AlD × Bool
def obsE (fa : List He.Fa) (fn : List He.DefD) (cb : PySem.W.Frag → Bool) (K : PySem.W.Frag) : AlE := (He.obsD fa fn (noT K), cb K)
def valE (fn : List He.DefD) : AlE := (He.valD fn, true)
def obsEG (n : Nat) (fa : List He.Fa) (fn : List He.DefD) (cb : PySem.W.Frag → Bool) (g : Addr → Option Obj) : AlE := obsE fa fn cb (He.frG g (He.asD g n))
def SaysE (fa : List He.Fa) (fn : List He.DefD) (cb : PySem.W.Frag → Bool) (K : PySem.W.Frag) : Prop := obsE fa fn cb K = valE fn
def AllIn (K : PySem.W.Frag) (h : Heap) : Prop := ∀ q ∈ K, h.get? q.1 = some q.2
theorem frG_all {h : Heap} : ∀ as : List Addr, AllIn (He.frG h.get? as) h
  | [], q, hq => nomatch hq
  | a :: as, q, hq => by
    unfold He.frG at hq
    rw [List.filterMap_cons] at hq
    cases e : h.get? a with
    | none => rw [e] at hq; exact frG_all as q hq
    | some o =>
      rw [e] at hq
      rcases List.mem_cons.mp hq with z | z
      · rw [z]; exact e
      · exact frG_all as q z
def hookE (n : Nat) (fa : List He.Fa) (fn : List He.DefD) (cb : PySem.W.Frag → Bool) : PySem.W.Hook where
  α := AlE
  obs := fun s => obsEG n fa fn cb s.heap.get?
  val := fun _ => valE fn
  says := fun _ h => ∃ K : PySem.W.Frag, AllIn K h ∧ SaysE fa fn cb K
  of := fun _ _ e => ⟨_, frG_all _, e⟩
  keeps := fun _ _ _ ⟨K, hK, c⟩ k => ⟨K, fun q hq => k _ _ (hK q hq), c⟩
theorem obsEG_eq {n : Nat} {fa : List He.Fa} {fn : List He.DefD} {cb : PySem.W.Frag → Bool} {g : Addr → Option Obj} {s : Shared} (h : ∀ a, g a = s.heap.get? a) : obsEG n fa fn cb g = (hookE n fa fn cb).obs s := by
  have e : g = s.heap.get? := funext h
  rw [e]
  rfl
theorem lookup_mem {a : Addr} {o : Obj} : ∀ {K : PySem.W.Frag}, K.lookup a = some o → (a, o) ∈ K
  | (b, q) :: K, h => by
    have h : (match a == b with | true => some q | false => List.lookup a K) = some o := h
    cases c : a == b with
    | true =>
      rw [c] at h
      cases h
      rw [beq_iff_eq.mp c]
      exact List.mem_cons_self ..
    | false =>
      rw [c] at h
      exact List.mem_cons_of_mem _ (lookup_mem h)
  | [], h => by cases h
theorem AllIn.in_ {K : PySem.W.Frag} {h : Heap} (A : AllIn K h) : (noT K).In h := fun a o e => A (a, o) (List.mem_filter.mp (lookup_mem e)).1
theorem noT_none {K : PySem.W.Frag} {h : Heap} {T : Addr} (A : AllIn K h) (e : h.get? T = some { cls := .none, data := .fields #[] }) : (noT K).lookup T = none := by
  cases q : (noT K).lookup T with
  | none => rfl
  | some o =>
    obtain ⟨z1, z2⟩ := List.mem_filter.mp (lookup_mem q)
    have z3 := A _ z1
    rw [show ((T, o) : Addr × Obj).1 = T from rfl, e] at z3
    cases z3
    cases z2
section
variable {L : Lw} {K : PySem.W.Frag} {h : Heap} {mg : Str → Option Value}
theorem says_d {fa : List He.Fa} {fn : List He.DefD} {cb : PySem.W.Frag → Bool} (c : SaysE fa fn cb K) : He.SaysD fa fn (noT K) ∧ cb K = true :=
  ⟨congrArg (fun z : AlE => z.1) c, congrArg (fun z : AlE => z.2) c⟩
theorem Lw.at_ {f : Nat} {x : Str} {ps : List Str} (e : L.M.fs[f]? = some (x, ps)) : ∃ r, L.rs[f]? = some r ∧ r.name = x ∧ r.ps = ps := by
  have e : (L.rs.map fun r => (r.name, r.ps))[f]? = some (x, ps) := e
  rw [List.getElem?_map] at e
  cases q : L.rs[f]? with
  | none => rw [q] at e; cases e
  | some r => rw [q] at e; cases e; exact ⟨r, rfl, rfl, rfl⟩
theorem Lw.fa_ {f : Nat} {r : DefR} (e : L.rs[f]? = some r) : (L.g K).fa f = He.ga K r.name := by
  show He.ga K ((L.rs.map (·.name)).getD f "") = _
  rw [List.getD_eq_getElem?_getD, List.getElem?_map, e]
  rfl
theorem Lw.fund (c : He.SaysD L.fa L.fn K) {f : Nat} {r : DefR} (e : L.rs[f]? = some r) : ∃ fd, FunD K r.name r.name (defArgs r.st) (defBody r.st) (defScope r.st) [] [] ((L.g K).fa f) fd := by
  have e2 : L.fn[f]? = some r.dd := by
    show (L.rs.map DefR.dd)[f]? = _
    rw [List.getElem?_map, e]
    rfl
  have z := c.def_ f e2
  rw [Lw.fa_ e]
  exact z
theorem tab_code {x : Str} {c T : Addr} {o : Obj} {fd : FuncData} (ht : PySem.W.tabIn K x = some (c, T)) (lk : K.lookup (He.ga K x) = some o) (hd : o.data = .func fd) : fd.code = .ref c := by
  unfold PySem.W.tabIn at ht
  split at ht
  · rename_i f hf
    have e1 : He.ga K x = f := by unfold He.ga; rw [hf]
    rw [e1] at lk
    rw [lk] at ht
    obtain ⟨oc, od, dt, sl⟩ := o
    have hd : dt = .func fd := hd
    subst hd
    dsimp only at ht
    split at ht
    · rename_i c2 hc
      split at ht
      · split at ht
        · cases ht; exact hc
        · cases ht
      · cases ht
    · cases ht
  · cases ht
theorem Lw.mem_tb {r : DefR} {q : Addr × Addr} (hr : r ∈ L.rs) (hl : r.ld = true) (ht : PySem.W.tabIn K r.name = some q) : q ∈ (L.g K).tb :=
  List.mem_filterMap.mpr ⟨r, List.mem_filter.mpr ⟨hr, hl⟩, ht⟩
theorem Lw.tb_of {q : Addr × Addr} (hq : q ∈ L.tb K) : ∃ r ∈ L.rs, r.ld = true ∧ PySem.W.tabIn K r.name = some q := by
  obtain ⟨r, h1, h2⟩ := List.mem_filterMap.mp hq
  obtain ⟨h3, h4⟩ := List.mem_filter.mp h1
  exact ⟨r, h3, h4, h2⟩
theorem Lw.pg (c : He.SaysD L.fa L.fn K) (ok : (L.rs.all fun r => okR L.M r) = true) (tb : ∀ r ∈ L.rs, r.ld = true → ∃ q, PySem.W.tabIn K r.name = some q) : PgOk L.P (L.g K) L.M K := by
  intro f x ps hf
  obtain ⟨r, e, rfl, rfl⟩ := Lw.at_ hf
  have eF : L.P.fs[f]? = some r.F := by
    show (L.rs.map (·.F))[f]? = _
    rw [List.getElem?_map, e]
    rfl
  have hr := List.mem_of_getElem? e
  have o := List.all_eq_true.mp ok r hr
  obtain ⟨fd, FD⟩ := Lw.fund c e
  refine ⟨r.F, eF, ?_⟩
  unfold okR at o
  cases hl : r.ld with
  | false =>
    rw [hl] at o
    have o : okN L.M r = true := o
    unfold okN at o
    obtain ⟨o, o5⟩ := bnd o
    obtain ⟨o, o4⟩ := bnd o
    obtain ⟨o, o3⟩ := bnd o
    obtain ⟨o1, o2⟩ := bnd o
    exact .inl ⟨r.N, r.name, defArgs r.st, defBody r.st, defScope r.st, fd, FD, scopeB_ok o1, o2, of_decide_eq_true o3, of_decide_eq_true o4, FD.bindsN fun kV doc pm an cdv ct us hl => binds_ok o5 kV doc pm an cdv ct us hl⟩
  | true =>
    rw [hl] at o
    have o : okL L.M r = true := o
    unfold okL at o
    obtain ⟨o, o6⟩ := bnd o
    obtain ⟨o, o5⟩ := bnd o
    obtain ⟨o, o4⟩ := bnd o
    obtain ⟨o, o3⟩ := bnd o
    obtain ⟨o1, o2⟩ := bnd o
    obtain ⟨⟨c', T⟩, ht⟩ := tb r hr hl
    have hc : fd.code = .ref c' := by
      obtain ⟨oc, od, dV, kV, doc, pm, an, cdv, ct, osl, e1, lk, _⟩ := FD.ex
      rw [Lw.fa_ e] at lk
      exact tab_code ht lk rfl
    exact .inr ⟨r.N, r.name, defArgs r.st, defBody r.st, defScope r.st, fd, c', T, FD, scopeB_ok o1, o2, of_decide_eq_true o3, of_decide_eq_true o4, isLead_ok o6, FD.bindsN fun kV doc pm an cdv ct us hl => binds_ok o5 kV doc pm an cdv ct us hl, Lw.mem_tb hr hl ht, hc⟩
theorem Lw.mgo (X : K.In h) (G : h.Ns mainGlobals mg) (c : He.SaysD L.fa L.fn K) (b : L.cb K = true) : MgOk L.P (L.g K) L.M mg := by
  obtain ⟨b1, b2⟩ := bnd b
  have all : ∀ f ∈ L.fa, f.ok K = true := fun f hf => by
    obtain ⟨i, hi⟩ := List.getElem?_of_mem hf
    exact c.fact i hi
  refine ⟨fun x hx => ?_, fun f x ps hf => ?_, fun k x d hk hd => ?_, fun k x ks hk hd => ?_⟩
  · exact He.free_ok X G (all (.free x) (List.mem_append_right _ (List.mem_map.mpr ⟨x, hx, rfl⟩)))
  · obtain ⟨r, e, rfl, rfl⟩ := Lw.at_ hf
    obtain ⟨fd, FD⟩ := Lw.fund c e
    refine ⟨?_, FD.kp⟩
    rw [Lw.fa_ e]
    exact He.glo_ok X G (all (.glo r.name) (List.mem_append_left _ (List.mem_map.mpr ⟨r, List.mem_of_getElem? e, rfl⟩)))
  · have hk : (L.cs.map (·.1))[k]? = some x := hk
    have hd : (L.cs.map (·.2))[k]? = some d := hd
    rw [List.getElem?_map] at hk hd
    cases q : L.cs[k]? with
    | none => rw [q] at hk; cases hk
    | some p =>
      rw [q] at hk hd
      cases hk
      cases hd
      have z := List.all_eq_true.mp b1 p (List.mem_of_getElem? q)
      cases e : PySem.W.nsIn K mainGlobals p.1 with
      | none => rw [e] at z; cases z
      | some o =>
        cases o with
        | none => rw [e] at z; cases z
        | some u =>
          rw [e] at z
          obtain ⟨v, r1, r2⟩ := conB_ok (g := L.g K) z
          exact ⟨u, v, PySem.W.mg_of X G e, r1, r2⟩
  · have hk : (L.ds.map (·.1))[k]? = some x := hk
    have hd : (L.ds.map (·.2))[k]? = some ks := hd
    rw [List.getElem?_map] at hk hd
    cases q : L.ds[k]? with
    | none => rw [q] at hk; cases hk
    | some p =>
      rw [q] at hk hd
      cases hk
      cases hd
      have z := List.all_eq_true.mp b2 p (List.mem_of_getElem? q)
      cases e : PySem.W.nsIn K mainGlobals p.1 with
      | none => rw [e] at z; cases z
      | some o =>
        cases o with
        | none => rw [e] at z; cases z
        | some u =>
          rw [e] at z
          obtain ⟨a, rfl, r2⟩ := dicB_ok (g := L.g K) z
          exact ⟨a, PySem.W.mg_of X G e, r2⟩
/-- the law's def -/
theorem Lw.law (X : K.In h) (G : h.Ns mainGlobals mg) (c1 : He.SaysD L.fa L.fn K) (c2 : L.cb K = true) (tb : ∀ r ∈ L.rs, r.ld = true → ∃ q, PySem.W.tabIn K r.name = some q) (ok : (L.rs.all fun r => okR L.M r) = true) {f : Nat} {r : DefR} (e : L.rs[f]? = some r) (hld : r.ld = false) {x : Str} (ep : r.ps = [x]) {fa : Addr} (ea : mg r.name = some (.ref fa)) (n : Nat) :
    ∃ fd : FuncData, (∀ (s : Shared) (v : Value), BindsTo s fd ⟨[v], []⟩ [(x, v)]) ∧ ∀ (prog : Program) (w : World) (base : Heap), (∀ q ∈ L.tb K, GxR.TabB base mg q.1 q.2) → FnOk prog w K mg base CX0 (n + 1) fa fd [x] (spEv L.P (L.g K) n f) := by
  have pg := Lw.pg c1 ok tb
  have mgo := Lw.mgo X G c1 c2
  have hf : L.M.fs[f]? = some (r.name, r.ps) := by
    show (L.rs.map fun r => (r.name, r.ps))[f]? = _
    rw [List.getElem?_map, e]
    rfl
  have o := List.all_eq_true.mp ok r (List.mem_of_getElem? e)
  unfold okR at o
  rw [hld] at o
  have o : okN L.M r = true := o
  unfold okN at o
  obtain ⟨o, o5⟩ := bnd o
  obtain ⟨o, o4⟩ := bnd o
  obtain ⟨o, o3⟩ := bnd o
  obtain ⟨o1, o2⟩ := bnd o
  obtain ⟨fd, FD⟩ := Lw.fund c1 e
  have eF : L.P.fs[f]? = some r.F := by
    show (L.rs.map (·.F))[f]? = _
    rw [List.getElem?_map, e]
    rfl
  have ef : (L.g K).fa f = fa := by
    have z := (mgo.fn f r.name r.ps hf).1
    rw [ea] at z
    cases z
    rfl
  have S := scopeB_ok o1
  have l1 := of_decide_eq_true o3
  have l2 := of_decide_eq_true o4
  rw [ep] at S l1 o5
  rw [← ef]
  refine ⟨fd, fun s v => ?_, fun prog w base tbs => FD.ok S (fun vs H Q E ⟨ρ, hh, ds, sim, rr, hr⟩ => ?_) (fun cdv A outer s H vs Q E room ⟨ρ, hh, ds, sim, rr, hr⟩ => ?_)⟩
  · exact FD.bindsA (ps := [x]) (fun kV doc pm an cdv ct us hl => binds_ok o5 kV doc pm an cdv ct us hl) s [v] rfl
  · obtain ⟨z1, z2, z3⟩ := call_len eF hr
    rw [← rr.length, z1, ← l1]
  · obtain ⟨z1, z2, z3⟩ := call_len eF hr
    refine ⟨_, (main n).mSs r.N (cxOf CX0 prog w K mg base r.N r.name (defScope r.st) ((L.g K).fa f) cdv A outer s H E) (defScope r.st) ⟨rfl, rfl, rfl, S.nd, rfl, room, mgo, fun x e => e, fun x e => ⟨e, rfl⟩, S.kind, pg, tbs⟩ (passes_of (K := fun e s'' => CX0 outer H s E e s'') rfl) r.F.body (defBody r.st) o2, body_imp sim (entry_env rr ?_) z3⟩
    rw [l2, ← rr.length, z1]
/-- what is left: the law's call over a frozen list gives True -/
theorem Lw.says (n f : Nat) {H : Hp} {a : Addr} {ns : List Int} {E : XK} (tb : ∀ q ∈ L.tb K, H q.2 = some (.tbl #[])) (fr : FrL K H a (ns.map V.int)) {h' : Hh} (e : callF L.P n f [.frl (ns.map D.int)] [] = .ok (.bl true) h') : spEv L.P (L.g K) n f [.ref a] H (fun v _ => v = .bl true) E := by
  have rs : ∀ ns : List Int, RepPs (L.g K) H (ns.map D.int) (ns.map V.int) := fun ns => by
    induction ns with
    | nil => exact .nil
    | cons i ns ih => exact .cons (.int i) ih
  refine ⟨[], [], _, ⟨rfl, List.nodup_nil, fun a ds e => (by cases e), fun q hq => ⟨#[], tb q hq, ?_⟩⟩, .cons (.pure (.frl fr (rs ns))) .nil, ?_⟩
  · exact trivial
  · rw [e]
    exact fun ρ' H' v m s r => r.bl
/-- a list of the script may be frozen ahead of the call -/
def spZ (sp : Sp) : Sp := fun vs H Q E => ∃ a, vs = [.ref a] ∧ ((∀ xs, H a ≠ some (.lst xs)) → sp vs H Q E) ∧ ∀ xs o, H a = some (.lst xs) → sp vs (upd H a (.frz o (.lst xs))) Q E
theorem hok_frz {P : Program} {w : World} {H : Hp} {hp : Heap} {a : Addr} {xs : List V} (k : HOk P w H hp) (e : H a = some (.lst xs)) : ∃ o, HOk P w (upd H a (.frz o (.lst xs))) hp := by
  have x := k a _ e
  obtain ⟨z, its, n, r, q⟩ := id x
  have ho : ∀ (c b : Addr), H b = some (.own c) → upd H a (.frz { cls := .type "list", data := .seq its.toArray n } (.lst xs)) b = some (.own c) := fun c b q => by
    rw [upd_ne (fun z => by rw [z, e] at q; cases q)]; exact q
  have ht : ∀ b ys, H b = some (.tup ys) → upd H a (.frz { cls := .type "list", data := .seq its.toArray n } (.lst xs)) b = some (.tup ys) := fun b ys q => by
    rw [upd_ne (fun z => by rw [z, e] at q; cases q)]; exact q
  refine ⟨{ cls := .type "list", data := .seq its.toArray n }, fun b u hb => ?_⟩
  by_cases hc : b = a
  · subst hc
    rw [upd_same] at hb
    cases hb
    exact ⟨q, x.stay (fun _ _ _ q => q) (ho _) ht⟩
  · rw [upd_ne hc] at hb
    exact (k b u hb).stay (fun _ _ _ q => q) (ho _) ht
theorem fn_frz {P : Program} {w : World} {base : Heap} {k : Nat} {fa : Addr} {fd : FuncData} {x : Str} {sp : Sp} (F : FnOk P w K mg base CX0 k fa fd [x] sp) : FnOk P w K mg base CX0 k fa fd [x] (spZ sp) := by
  refine ⟨fun vs H Q E ⟨a, e, _⟩ => by rw [e]; rfl, fun A outer s H args us vs Q E hr he hb hv ⟨a, ea, h1, h2⟩ => ?_⟩
  by_cases hx : ∃ xs, H a = some (.lst xs)
  · obtain ⟨xs, hx⟩ := hx
    obtain ⟨o, hk⟩ := hok_frz he.hok hx
    have ne : ∀ {b : Addr}, H b = none → b ≠ a := fun n z => by rw [z, hx] at n; cases n
    have nn : ∀ {b : Addr}, H b = none → upd H a (.frz o (.lst xs)) b = none := fun n => by rw [upd_ne (ne n)]; exact n
    have he2 : Env0 P w K mg base A outer s (upd H a (.frz o (.lst xs))) := ⟨he.frames, he.mod, fun b ob e => ⟨(he.bs b ob e).1, nn (he.bs b ob e).2⟩, he.bsz, he.funs, fun b hb => nn (he.frf b hb), hk, he.bare⟩
    refine codeAny_mono (F.run A outer s _ args us vs Q E hr he2 hb hv (h2 xs o hx)) fun r s' c => ?_
    unfold CR at c ⊢
    cases r with
    | error e => exact c
    | ok fl =>
      cases fl with
      | ret u =>
        obtain ⟨v, H', os, bare, un, r1, r2, r3⟩ := c
        refine ⟨v, H', os, bare, ⟨fun b ob e n => un.keep b ob e (nn n), fun b ob e n => un.slot b ob e (nn n), fun b ob e n => un.free b ob e (nn n), un.there, fun b ys e => un.tups b ys ?_, fun b ob u e => ?_, fun b ps e => un.tbls b ps ?_⟩, r1, r2, r3⟩
        · rw [upd_ne (fun z => by rw [z, hx] at e; cases e)]; exact e
        · refine un.frzs b ob u ?_
          rw [upd_ne (fun z => by rw [z, hx] at e; cases e)]; exact e
        · rw [upd_ne (fun z => by rw [z, hx] at e; cases e)]; exact e
      | _ => exact c
  · exact F.run A outer s H args us vs Q E hr he hb hv (h1 fun xs q => hx ⟨xs, q⟩)
/-- the end -/
theorem Lw.at_law {l : PySem.W.OpenLaw} {w : World} {N : Nat} (Y : ∃ K : PySem.W.Frag, AllIn K h ∧ SaysE L.fa L.fn L.ckb K) (G : h.Ns mainGlobals mg) (ok : (L.rs.all fun r => okR L.M r) = true) {f : Nat} {r : DefR} (e : L.rs[f]? = some r) (hld : r.ld = false) {x : Str} (ep : r.ps = [x]) {fa : Addr} (ea : mg r.name = some (.ref fa)) (n : Nat)
    (run : ∀ ns : List Int, ns.length ≤ N → ∃ h', callF L.P n f [.frl (ns.map D.int)] [] = .ok (.bl true) h') : ∃ K : PySem.W.Frag, K.In h ∧ LamX.LawAtS l w K CX0 (n + 1) N x mg fa h := by
  obtain ⟨K0, A, c⟩ := Y
  have X := A.in_
  obtain ⟨c1, c2⟩ := says_d c
  obtain ⟨c3, c4⟩ := bnd c2
  have tbf : ∀ r ∈ L.rs, r.ld = true → ∃ q, PySem.W.tabIn (noT K0) r.name = some q ∧ PySem.W.CodeHd h q.1 q.2 ∧ h.get? q.2 = some { cls := .none, data := .fields #[] } ∧ mainGlobals ≠ q.2 := fun r hr hl => by
    have z := List.all_eq_true.mp c4 r (List.mem_filter.mpr ⟨hr, hl⟩)
    cases ht : PySem.W.tabIn (noT K0) r.name with
    | none => rw [ht] at z; cases z
    | some q =>
      rw [ht] at z
      obtain ⟨z, z3⟩ := bnd z
      obtain ⟨z1, z2⟩ := bnd z
      cases hk : K0.lookup q.2 with
      | none => rw [hk] at z2; cases z2
      | some o =>
        rw [hk] at z2
        have := A _ (lookup_mem hk)
        refine ⟨q, rfl, PySem.W.codeHd_of_K X z1, ?_, of_decide_eq_true z3⟩
        rw [← isT_ok z2]
        exact this
  have tbq : ∀ q ∈ L.tb (noT K0), PySem.W.CodeHd h q.1 q.2 ∧ h.get? q.2 = some { cls := .none, data := .fields #[] } := fun q hq => by
    obtain ⟨r, hr, hl, ht⟩ := Lw.tb_of hq
    obtain ⟨q2, h1, h2, h3, _⟩ := tbf r hr hl
    rw [ht] at h1
    cases h1
    exact ⟨h2, h3⟩
  obtain ⟨fd, hb, hF⟩ := Lw.law X G c1 c3 (fun r hr hl => let ⟨q, hq, _⟩ := tbf r hr hl; ⟨q, hq⟩) ok e hld ep ea n
  refine ⟨noT K0, X, fd, L.tb (noT K0), spZ (spEv L.P (L.g (noT K0)) n f), fun q hq => (tbq q hq).2, fun q hq => noT_none A (tbq q hq).2, fun q hq => (tbq q hq).1, hb, fun H a ns hl _ hT hS => ?_, fun base _ _ tbs => fn_frz (hF _ w base fun q hq => ⟨(tbs q hq).code, (tbs q hq).bm, (tbs q hq).gP⟩)⟩
  obtain ⟨h2, rn⟩ := run ns hl
  refine ⟨a, rfl, fun ne => ?_, fun xs o hx => ?_⟩
  · refine Lw.says n f hT ?_ rn
    rcases hS with hS | hS
    · rcases hS with q | ⟨o, q⟩
      · exact absurd q (ne _)
      · exact .inl ⟨o, q⟩
    · exact .inr hS
  · have fr : FrL (noT K0) (upd H a (.frz o (.lst xs))) a (ns.map V.int) := by
      rcases hS with hS | hS
      · rcases hS with q | ⟨o, q⟩
        · rw [hx] at q; cases q; exact .inl ⟨o, upd_same⟩
        · rw [hx] at q; cases q
      · exact .inr hS
    refine Lw.says n f (fun q hq => ?_) fr rn
    rw [upd_ne (fun z => by rw [← z, hT q hq] at hx; cases hx)]
    exact hT q hq
end
end Ev
-- T0
/-! the law's defs as terms -/
namespace K0
open PySem Ev
def top (i : Nat) : Stmt := PySem.Challenge.pw_tablerings_k00_whole_spaces_and_their_ba.main.body.getD i (.Pass ⟨0, 0, 0, 0⟩)
def b0 : I := (.sCons (.sRet (.and (.isi .isIntB (.var 0)) (.one (.not (.isi .isBoolB (.var 0)))))) .sNil)
def b1 : I := (.sCons (.sRet (.and (.cal 0 (.acons (.var 0) .anil)) (.one (.chn .le .le (.var 1) (.var 0) (.var 2))))) .sNil)
def b2 : I := (.sCons (.sRet (.and (.cal 0 (.acons (.var 0) .anil)) (.one (.cmp .inn (.var 0) (.glb 0))))) .sNil)
def b3 : I := (.sCons (.sRet (.and (.isi .isTupB (.var 2)) (.and (.cmp .eq (.blt .len (.acons (.var 2) .anil)) (.var 1)) (.one (.blt .all (.acons (.lc (.gv 3) (.iS (.var 2)) (.cst (.bl true)) (.cal 1 (.acons (.var 3) (.acons (.cst (.int 0)) (.acons (.bin .sub (.var 0) (.cst (.int 1))) .anil)))) [3]) .anil)))))) .sNil)
def b4 : I := (.sCons (.sRet (.ix (.gdx 0 (.var 0)) (.var 1))) .sNil)
def b5 : I := (.sCons (.sIf (.not (.tv (.cal 1 (.acons (.var 0) (.acons (.var 1) (.acons (.var 2) .anil)))))) .sNever .sNil) .sNil)
def b6 : I := (.sCons (.sIf (.not (.tv (.cal 2 (.acons (.var 0) .anil)))) .sNever .sNil) .sNil)
def b7 : I := (.sCons (.sRet (.blt .tuple (.acons (.lc (.gv 3) (.iS (.var 2)) (.cst (.bl true)) (.bin .mod (.bin .mul (.var 1) (.var 3)) (.var 0)) [3]) .anil))) .sNil)
def b8 : I := (.sCons (.sRet (.blt .tuple (.acons (.lc (.gt (.gcons (.gv 4) (.gcons (.gv 5) .gnil))) (.iZ (.var 1) (.var 2)) (.cst (.bl true)) (.bin .mod (.bin .add (.var 4) (.bin .mul (.var 3) (.var 5))) (.var 0)) [4, 5]) .anil))) .sNil)
def b9 : I := leadI
def b10 : I := (.sCons (.sRet (.lc (.gv 1) (.iS (.var 0)) (.cst (.bl true)) (.cal 9 (.acons (.var 1) .anil)) [1])) .sNil)
def b11 : I := (.sCons (.sFor (.gv 3) (.iS (.var 1)) (.sCons (.sAsg (.gv 4) (.ix (.var 2) (.cal 9 (.acons (.var 3) .anil)))) (.sCons (.sIf (.cmp .ne (.var 4) (.cst (.int 0))) (.sCons (.sAsg (.gv 2) (.cal 8 (.acons (.var 0) (.acons (.var 2) (.acons (.var 3) (.acons (.neg (.var 4)) .anil)))))) .sNil) .sNil) .sNil))) (.sCons (.sRet (.var 2)) .sNil))
def b12 : I := (.sCons (.sRet (.not (.blt .any (.acons (.cal 11 (.acons (.var 0) (.acons (.var 1) (.acons (.var 2) .anil)))) .anil)))) .sNil)
def b13 : I := (.sCons (.sAsg (.gv 3) (.cal 11 (.acons (.var 0) (.acons (.var 1) (.acons (.var 2) .anil))))) (.sCons (.sAsg (.gv 4) (.cal 9 (.acons (.var 3) .anil))) (.sCons (.sIf (.cmp .isN (.var 4) (.cst .non)) (.sCons (.sRet (.var 1)) .sNil) .sNil) (.sCons (.sAsg (.gv 3) (.cal 7 (.acons (.var 0) (.acons (.cal 4 (.acons (.var 0) (.acons (.ix (.var 3) (.var 4)) .anil))) (.acons (.var 3) .anil))))) (.sCons (.sAsg (.gv 5) (.lc (.gv 7) (.iS (.var 1)) (.cst (.bl true)) (.cal 8 (.acons (.var 0) (.acons (.var 7) (.acons (.var 3) (.acons (.neg (.ix (.var 7) (.var 4))) .anil))))) [7])) (.sCons (.sAsg (.gv 6) (.blt .len (.acons (.lc (.gv 7) (.iS (.var 5)) (.cmp .lt (.cal 9 (.acons (.var 7) .anil)) (.var 4)) (.var 7) [7]) .anil))) (.sCons (.sRet (.tup (.astar (.sl (.var 5) .pno (.po (.var 6))) (.acons (.var 3) (.astar (.sl (.var 5) (.po (.var 6)) .pno) .anil))))) .sNil)))))))
def b14 : I := (.sCons (.sAsg (.gv 2) (.tup .anil)) (.sCons (.sFor (.gv 3) (.iS (.var 1)) (.sCons (.sAsg (.gv 2) (.cal 13 (.acons (.var 0) (.acons (.var 2) (.acons (.var 3) .anil))))) .sNil)) (.sCons (.sRet (.var 2)) .sNil)))
def b15 : I := (.sCons (.sAsg (.gv 2) (.cal 10 (.acons (.var 1) .anil))) (.sCons (.sIf (.or (.cmp .inn (.cst .non) (.var 2)) (.one (.not (.tv (.blt .all (.acons (.lc (.gt (.gcons (.gv 7) (.gcons (.gv 8) .gnil))) (.iZ (.var 2) (.sl (.var 2) (.po (.cst (.int 1))) .pno)) (.cst (.bl true)) (.cmp .lt (.var 7) (.var 8)) [7, 8]) .anil)))))) (.sCons (.sRet (.cst (.bl false))) .sNil) .sNil) (.sCons (.sRet (.blt .all (.acons (.lc2 (.gt (.gcons (.gv 3) (.gcons (.gv 4) .gnil))) (.iE (.var 1)) (.gt (.gcons (.gv 5) (.gcons (.gv 6) .gnil))) (.iE (.var 2)) (.cst (.bl true)) (.cmp .eq (.ix (.var 4) (.var 6)) (.blt .int (.acons (.cmp .eq (.var 3) (.var 5)) .anil))) [3, 4, 5, 6] [5, 6]) .anil))) .sNil)))
def b16 : I := (.sCons (.sIf (.or (.not (.tv (.isi .isTupB (.var 2)))) (.one (.not (.tv (.blt .all (.acons (.lc (.gv 3) (.iS (.var 2)) (.cst (.bl true)) (.cal 3 (.acons (.var 0) (.acons (.var 1) (.acons (.var 3) .anil)))) [3]) .anil)))))) (.sCons (.sRet (.cst (.bl false))) .sNil) .sNil) (.sCons (.sRet (.cal 15 (.acons (.var 0) (.acons (.var 2) .anil)))) .sNil))
def b17 : I := (.sCons (.sIf (.not (.tv (.cal 16 (.acons (.var 0) (.acons (.var 1) (.acons (.var 2) .anil)))))) .sNever .sNil) .sNil)
def b18 : I := (.sCons (.sIf (.not (.tv (.cal 3 (.acons (.var 0) (.acons (.var 1) (.acons (.var 2) .anil)))))) .sNever .sNil) .sNil)
def b19 : I := (.sCons (.sExp (.cal 6 (.acons (.var 0) .anil))) (.sCons (.sExp (.cal 5 (.acons (.var 1) (.acons (.cst (.int 1)) (.acons (.glb 1) .anil))))) .sNil))
def b20 : I := (.sCons (.sExp (.cal 19 (.acons (.var 0) (.acons (.var 1) .anil)))) (.sCons (.sAsg (.gv 3) (.and (.isi .isTupB (.var 2)) (.one (.cmp .le (.blt .len (.acons (.var 2) .anil)) (.glb 2))))) (.sCons (.sIf (.or (.not (.tv (.var 3))) (.one (.not (.tv (.blt .all (.acons (.lc (.gv 4) (.iS (.var 2)) (.cst (.bl true)) (.cal 3 (.acons (.var 0) (.acons (.var 1) (.acons (.var 4) .anil)))) [4]) .anil)))))) .sNever .sNil) (.sCons (.sRet (.cal 14 (.acons (.var 0) (.acons (.var 2) .anil)))) .sNil))))
def b21 : I := (.sCons (.sExp (.cal 19 (.acons (.var 0) (.acons (.var 1) .anil)))) (.sCons (.sRet (.cal 16 (.acons (.var 0) (.acons (.var 1) (.acons (.var 2) .anil))))) .sNil))
def b22 : I := (.sCons (.sExp (.cal 19 (.acons (.var 0) (.acons (.var 1) .anil)))) (.sCons (.sExp (.cal 17 (.acons (.var 0) (.acons (.var 1) (.acons (.var 2) .anil))))) (.sCons (.sExp (.cal 18 (.acons (.var 0) (.acons (.var 1) (.acons (.var 3) .anil))))) (.sCons (.sRet (.cal 12 (.acons (.var 0) (.acons (.var 2) (.acons (.var 3) .anil))))) .sNil))))
def b23 : I := (.sCons (.sAsg (.gv 2) (.ife (.cmp .lt (.var 1) (.blt .len (.acons (.var 0) .anil))) (.blt .int (.acons (.ix (.var 0) (.var 1)) .anil)) (.bin .add (.bin .mul (.cst (.int 97)) (.var 1)) (.cst (.int 41))))) (.sCons (.sAsg (.gv 3) (.bin .mod (.blt .int (.acons (.blt .abs (.acons (.var 2) .anil)) .anil)) (.bin .pow (.bin .pow (.cst (.int 10)) (.cst (.int 59))) (.cst (.int 7))))) (.sCons (.sAsg (.gv 4) (.bin .add (.bin .add (.bin .add (.bin .mul (.bin .mod (.blt .int (.acons (.var 3) .anil)) (.cst (.int 1152921504606846697))) (.cst (.int 60623))) (.bin .mul (.cst (.int 7393)) (.var 1))) (.bin .mul (.cst (.int 71)) (.blt .int (.acons (.cmp .lt (.var 2) (.cst (.int 0))) .anil)))) (.cst (.int 37)))) (.sCons (.sRet (.lst (.acons (.blt .max2 (.acons (.cst (.int 0)) (.acons (.bin .add (.bin .sub (.var 3) (.bin .pow (.cst (.int 10)) (.cst (.int 16)))) (.cst (.int 3))) .anil))) (.acons (.bin .mod (.blt .int (.acons (.var 4) .anil)) (.cst (.int 2305843009213693973))) (.acons (.cst (.int 0)) .anil))))) .sNil))))
def b24 : I := (.sCons (.sIf (.cmp .gt (.ix (.var 0) (.cst (.int 0))) (.cst (.int 0))) (.sCons (.sAsg (.gv 4) (.bin .mod (.blt .int (.acons (.ix (.var 0) (.cst (.int 0))) .anil)) (.var 1))) (.sCons (.sAsg (.gx (.var 0) (.cst (.int 0))) (.bin .fdiv (.ix (.var 0) (.cst (.int 0))) (.var 1))) (.sCons (.sRet (.var 4)) .sNil))) .sNil) (.sCons (.sAsg (.gx (.var 0) (.cst (.int 2))) (.bin .add (.ix (.var 0) (.cst (.int 2))) (.cst (.int 1)))) (.sCons (.sAsg (.gv 2) (.bin .mod (.blt .int (.acons (.bin .add (.ix (.var 0) (.cst (.int 1))) (.bin .mul (.cst (.int 1000423)) (.ix (.var 0) (.cst (.int 2))))) .anil)) (.cst (.int 2305843009213693973)))) (.sCons (.sAsg (.gv 3) (.bin .add (.bin .mul (.bin .mod (.blt .int (.acons (.bin .mul (.var 2) (.var 2)) .anil)) (.cst (.int 2305843009213693951))) (.var 2)) (.bin .mul (.cst (.int 6947)) (.ix (.var 0) (.cst (.int 2)))))) (.sCons (.sRet (.bin .mod (.blt .int (.acons (.bin .fdiv (.bin .mod (.blt .int (.acons (.var 3) .anil)) (.cst (.int 2305843009213693867))) (.cst (.int 16384))) .anil)) (.var 1))) .sNil)))))
def b25 : I := (.sCons (.sRet (.ix (.var 1) (.cal 24 (.acons (.var 0) (.acons (.blt .len (.acons (.var 1) .anil)) .anil))))) .sNil)
def b26 : I := (.sCons (.sRet (.ix (.lc (.gv 2) (.iR (.acons (.cst (.int 1)) (.acons (.var 0) .anil))) (.cmp .eq (.bin .mod (.bin .mul (.var 2) (.var 1)) (.var 0)) (.cst (.int 1))) (.var 2) [2]) (.cst (.int 0)))) .sNil)
def b27 : I := (.sCons (.sRet (.blt .tuple (.acons (.lc (.gt (.gcons (.gv 4) (.gcons (.gv 5) .gnil))) (.iZ (.var 1) (.var 2)) (.cst (.bl true)) (.bin .mod (.bin .add (.var 4) (.bin .mul (.var 3) (.var 5))) (.var 0)) [4, 5]) .anil))) .sNil)
def b28 : I := (.sCons (.sPar2 4 5 (.lc (.gv 9) (.iS (.var 1)) (.cmp .gt (.blt .max1 (.acons (.var 9) .anil)) (.cst (.int 0))) (.var 9) [9]) (.lst .anil)) (.sCons (.sFor (.gv 3) (.iR (.acons (.var 2) .anil)) (.sCons (.sAsg (.gv 6) (.lc (.gv 9) (.iS (.var 4)) (.cmp .gt (.ix (.var 9) (.var 3)) (.cst (.int 0))) (.var 9) [9])) (.sCons (.sIf (.cmp .ne (.var 6) (.lst .anil)) (.sCons (.sAsg (.gv 7) (.cal 26 (.acons (.var 0) (.acons (.ix (.ix (.var 6) (.cst (.int 0))) (.var 3)) .anil)))) (.sCons (.sAsg (.gv 8) (.blt .tuple (.acons (.lc (.gv 10) (.iS (.ix (.var 6) (.cst (.int 0)))) (.cst (.bl true)) (.bin .mod (.bin .mul (.var 7) (.var 10)) (.var 0)) [10]) .anil))) (.sCons (.sAsg (.gv 4) (.lc (.gv 9) (.iS (.var 4)) (.cst (.bl true)) (.cal 27 (.acons (.var 0) (.acons (.var 9) (.acons (.var 8) (.acons (.bin .sub (.cst (.int 0)) (.ix (.var 9) (.var 3))) .anil))))) [9])) (.sCons (.sAsg (.gv 4) (.lc (.gv 9) (.iS (.var 4)) (.cmp .gt (.blt .max1 (.acons (.var 9) .anil)) (.cst (.int 0))) (.var 9) [9])) (.sCons (.sAsg (.gv 5) (.bin .add (.lc (.gv 9) (.iS (.var 5)) (.cst (.bl true)) (.cal 27 (.acons (.var 0) (.acons (.var 9) (.acons (.var 8) (.acons (.bin .sub (.cst (.int 0)) (.ix (.var 9) (.var 3))) .anil))))) [9]) (.lst (.acons (.var 8) .anil)))) .sNil))))) .sNil) .sNil))) (.sCons (.sRet (.blt .tuple (.acons (.var 5) .anil))) .sNil)))
def b29 : I := (.sCons (.sIf (.not (.tv (.isi .isTupB (.var 2)))) (.sCons (.sRet (.cst (.bl false))) .sNil) .sNil) (.sCons (.sFor (.gv 3) (.iS (.var 2)) (.sCons (.sIf (.or (.not (.tv (.isi .isTupB (.var 3)))) (.one (.cmp .ne (.blt .len (.acons (.var 3) .anil)) (.var 1)))) (.sCons (.sRet (.cst (.bl false))) .sNil) .sNil) (.sCons (.sIf (.cmp .ne (.lc (.gv 4) (.iS (.var 3)) (.or (.not (.tv (.isi .isIntB (.var 4)))) (.one (.tv (.isi .isBoolB (.var 4))))) (.cst (.int 1)) [4]) (.lst .anil)) (.sCons (.sRet (.cst (.bl false))) .sNil) .sNil) (.sCons (.sIf (.or (.cmp .ne (.lc (.gv 4) (.iS (.var 3)) (.not (.chn .le .lt (.cst (.int 0)) (.var 4) (.var 0))) (.cst (.int 1)) [4]) (.lst .anil)) (.one (.cmp .eq (.blt .max1 (.acons (.var 3) .anil)) (.cst (.int 0))))) (.sCons (.sRet (.cst (.bl false))) .sNil) .sNil) .sNil)))) (.sCons (.sRet (.cmp .eq (.var 2) (.cal 28 (.acons (.var 0) (.acons (.blt .list (.acons (.var 2) .anil)) (.acons (.var 1) .anil)))))) .sNil)))
def b30 : I := (.sCons (.sFor (.gv 3) (.iS (.var 1)) (.sCons (.sAsg (.gv 2) (.cal 27 (.acons (.var 0) (.acons (.var 2) (.acons (.var 3) (.acons (.bin .sub (.cst (.int 0)) (.ix (.var 2) (.idx (.var 3) (.cst (.int 1))))) .anil)))))) .sNil)) (.sCons (.sRet (.cmp .eq (.blt .max1 (.acons (.var 2) .anil)) (.cst (.int 0)))) .sNil))
def b31 : I := (.sCons (.sAsg (.gv 3) (.lst (.acons (.bin .mul (.tup (.acons (.cst (.int 0)) .anil)) (.var 2)) .anil))) (.sCons (.sFor (.gv 4) (.iS (.var 1)) (.sCons (.sAsg (.gv 5) (.lst .anil)) (.sCons (.sFor (.gv 6) (.iR (.acons (.var 0) .anil)) (.sCons (.sExp (.ext (.var 5) (.lc (.gv 7) (.iS (.var 3)) (.cst (.bl true)) (.cal 27 (.acons (.var 0) (.acons (.var 7) (.acons (.var 4) (.acons (.var 6) .anil))))) [7]))) .sNil)) (.sCons (.sAsg (.gv 3) (.blt .list (.acons (.var 5) .anil))) .sNil)))) (.sCons (.sRet (.var 3)) .sNil)))
def b32 : I := (.sCons (.sPar2 5 6 (.lst .anil) (.cmp .eq (.cal 24 (.acons (.var 0) (.acons (.cst (.int 3)) .anil))) (.cst (.int 0)))) (.sCons (.sFor (.gv 4) (.iR (.acons (.var 2) .anil)) (.sCons (.sAsg (.gv 7) (.lst .anil)) (.sCons (.sFor (.gv 8) (.iR (.acons (.var 3) .anil)) (.sCons (.sAsg (.gv 9) (.cal 24 (.acons (.var 0) (.acons (.var 1) .anil)))) (.sCons (.sExp (.app (.var 7) (.ife (.or (.not (.tv (.var 6))) (.one (.cmp .eq (.cal 24 (.acons (.var 0) (.acons (.cst (.int 3)) .anil))) (.cst (.int 0))))) (.var 9) (.cst (.int 0))))) .sNil))) (.sCons (.sExp (.app (.var 5) (.blt .tuple (.acons (.var 7) .anil)))) .sNil)))) (.sCons (.sRet (.var 5)) .sNil)))
def b33 : I := (.sCons (.sAsg (.gv 4) (.lst .anil)) (.sCons (.sFor (.gt (.gcons (.gv 5) (.gcons (.gv 6) .gnil))) (.iE (.var 3)) (.sCons (.sAsg (.gv 7) (.bin .add (.cst (.int 1)) (.cal 24 (.acons (.var 0) (.acons (.bin .sub (.var 1) (.cst (.int 1))) .anil))))) (.sCons (.sAsg (.gv 8) (.cal 27 (.acons (.var 1) (.acons (.bin .mul (.tup (.acons (.cst (.int 0)) .anil)) (.var 2)) (.acons (.var 6) (.acons (.var 7) .anil)))))) (.sCons (.sFor (.gv 9) (.iS (.sl (.var 3) .pno (.po (.var 5)))) (.sCons (.sAsg (.gv 8) (.cal 27 (.acons (.var 1) (.acons (.var 8) (.acons (.var 9) (.acons (.cal 24 (.acons (.var 0) (.acons (.var 1) .anil))) .anil)))))) .sNil)) (.sCons (.sAsg (.gv 4) (.ife (.cmp .eq (.cal 24 (.acons (.var 0) (.acons (.cst (.int 2)) .anil))) (.cst (.int 0))) (.bin .add (.lst (.acons (.var 8) .anil)) (.var 4)) (.bin .add (.var 4) (.lst (.acons (.var 8) .anil))))) .sNil))))) (.sCons (.sRet (.bin .add (.var 4) (.sl (.var 4) .pno (.po (.cst (.int 1)))))) .sNil)))
def b34 : I := (.sCons (.sAsg (.gv 4) (.lst (.acons (.var 3) (.acons (.frz (.blt .list (.acons (.var 3) .anil))) (.acons (.stp (.var 3) (.neg (.cst (.int 1)))) (.acons (.bin .add (.var 3) (.tup (.acons (.bin .mul (.tup (.acons (.cst (.int 0)) .anil)) (.var 2)) .anil))) (.acons (.cst .non) (.acons (.cst (.int 0)) (.acons (.cst (.str "base")) (.acons .dct (.acons (.bin .mul (.tup (.acons (.cst (.int 0)) .anil)) (.var 2)) .anil))))))))))) (.sCons (.sAsg (.gv 4) (.bin .add (.var 4) (.lst (.acons (.tup (.acons (.bin .mul (.tup (.acons (.cst (.int 0)) .anil)) (.var 2)) .anil)) (.acons (.tup (.acons (.bin .mul (.tup (.acons (.cst (.int 1)) .anil)) (.bin .add (.var 2) (.cst (.int 1)))) .anil)) (.acons (.sl (.var 3) (.po (.cst (.int 1))) .pno) (.acons (.tup (.acons (.cst .non) .anil)) .anil))))))) (.sCons (.sIf (.cmp .ne (.var 3) (.tup .anil)) (.sCons (.sPar2 6 7 (.cal 24 (.acons (.var 0) (.acons (.blt .len (.acons (.var 3) .anil)) .anil))) (.cal 24 (.acons (.var 0) (.acons (.var 2) .anil)))) (.sCons (.sAsg (.gv 5) (.blt .list (.acons (.ix (.var 3) (.var 6)) .anil))) (.sCons (.sAsg (.gx (.var 5) (.var 7)) (.cal 25 (.acons (.var 0) (.acons (.lst (.acons (.cst (.int 0)) (.acons (.cst (.int 1)) (.acons (.bin .sub (.var 1) (.cst (.int 1))) (.acons (.var 1) (.acons (.neg (.cst (.int 1))) (.acons (.cst (.bl true)) (.acons (.cst (.str "1")) (.acons (.cst .non) .anil))))))))) .anil)))) (.sCons (.sExp (.app (.var 4) (.bin .add (.bin .add (.sl (.var 3) .pno (.po (.var 6))) (.tup (.acons (.blt .tuple (.acons (.var 5) .anil)) .anil))) (.sl (.var 3) (.po (.bin .add (.var 6) (.cst (.int 1)))) .pno)))) (.sCons (.sExp (.app (.var 4) (.bin .add (.bin .add (.sl (.var 3) .pno (.po (.var 6))) (.tup (.acons (.frz (.blt .list (.acons (.ix (.var 3) (.var 6)) .anil))) .anil))) (.sl (.var 3) (.po (.bin .add (.var 6) (.cst (.int 1)))) .pno)))) (.sCons (.sExp (.app (.var 4) (.bin .add (.bin .add (.sl (.var 3) .pno (.po (.var 6))) (.tup (.acons (.sl (.ix (.var 3) (.var 6)) .pno (.po (.neg (.cst (.int 1))))) .anil))) (.sl (.var 3) (.po (.bin .add (.var 6) (.cst (.int 1)))) .pno)))) .sNil)))))) .sNil) (.sCons (.sRet (.var 4)) .sNil))))
def b35 : I := (.sCons (.sAsg (.gt (.gcons (.gv 5) (.gcons (.gv 6) .gnil))) (.tup (.acons (.cal 25 (.acons (.var 0) (.acons (.lst (.acons (.cst (.int 2)) (.acons (.cst (.int 3)) (.acons (.cst (.int 5)) (.acons (.cst (.int 7)) .anil))))) .anil))) (.acons (.bin .add (.cst (.int 1)) (.cal 24 (.acons (.var 0) (.acons (.cst (.int 5)) .anil)))) .anil)))) (.sCons (.sAsg (.gv 1) (.cal 32 (.acons (.var 0) (.acons (.var 5) (.acons (.cal 24 (.acons (.var 0) (.acons (.cst (.int 6)) .anil))) (.acons (.var 6) .anil)))))) (.sCons (.sAsg (.gt (.gcons (.gv 7) (.gcons (.gv 8) .gnil))) (.tup (.acons (.cal 20 (.acons (.var 5) (.acons (.var 6) (.acons (.blt .tuple (.acons (.var 1) .anil)) .anil)))) (.acons (.cal 28 (.acons (.var 5) (.acons (.var 1) (.acons (.var 6) .anil)))) .anil)))) (.sCons (.sIf (.or (.cmp .ne (.var 7) (.var 8)) (.or (.not (.tv (.cal 21 (.acons (.var 5) (.acons (.var 6) (.acons (.var 7) .anil)))))) (.one (.cmp .gt (.blt .len (.acons (.var 7) .anil)) (.blt .min2 (.acons (.var 6) (.acons (.blt .len (.acons (.var 1) .anil)) .anil))))))) (.sCons (.sRet (.cst (.bl false))) .sNil) .sNil) (.sCons (.sAsg (.gv 2) (.cal 33 (.acons (.var 0) (.acons (.var 5) (.acons (.var 6) (.acons (.var 1) .anil)))))) (.sCons (.sIf (.or (.cmp .ne (.cal 20 (.acons (.var 5) (.acons (.var 6) (.acons (.blt .tuple (.acons (.var 2) .anil)) .anil)))) (.var 8)) (.one (.cmp .ne (.cal 20 (.acons (.var 5) (.acons (.var 6) (.acons (.var 7) .anil)))) (.var 8)))) (.sCons (.sRet (.cst (.bl false))) .sNil) .sNil) (.sCons (.sIf (.cmp .lt (.blt .len (.acons (.var 7) .anil)) (.cst (.int 3))) (.sCons (.sAsg (.gv 9) (.cal 31 (.acons (.var 5) (.acons (.blt .list (.acons (.var 7) .anil)) (.acons (.var 6) .anil))))) (.sCons (.sIf (.or (.cmp .ne (.lset (.var 9)) (.blt .len (.acons (.var 9) .anil))) (.one (.cmp .ne (.lc (.gv 3) (.iS (.var 9)) (.not (.tv (.cal 30 (.acons (.var 5) (.acons (.var 7) (.acons (.var 3) .anil)))))) (.var 3) [3]) (.lst .anil)))) (.sCons (.sRet (.cst (.bl false))) .sNil) .sNil) (.sCons (.sIf (.cmp .ne (.lc (.gv 3) (.iS (.stp (.var 9) (.cst (.int 3)))) (.not (.tv (.cal 22 (.acons (.var 5) (.acons (.var 6) (.acons (.var 7) (.acons (.var 3) .anil))))))) (.var 3) [3]) (.lst .anil)) (.sCons (.sRet (.cst (.bl false))) .sNil) .sNil) .sNil))) .sNil) (.sCons (.sFor (.gv 3) (.iS (.bin .add (.var 1) (.cal 32 (.acons (.var 0) (.acons (.var 5) (.acons (.cst (.int 5)) (.acons (.var 6) .anil))))))) (.sCons (.sIf (.cmp .ne (.cal 22 (.acons (.var 5) (.acons (.var 6) (.acons (.var 7) (.acons (.var 3) .anil))))) (.cmp .eq (.cal 28 (.acons (.var 5) (.acons (.bin .add (.var 1) (.lst (.acons (.var 3) .anil))) (.acons (.var 6) .anil)))) (.var 8))) (.sCons (.sRet (.cst (.bl false))) .sNil) .sNil) .sNil)) (.sCons (.sFor (.gv 4) (.iS (.cal 34 (.acons (.var 0) (.acons (.var 5) (.acons (.var 6) (.acons (.var 7) .anil)))))) (.sCons (.sIf (.cmp .ne (.cal 21 (.acons (.var 5) (.acons (.var 6) (.acons (.var 4) .anil)))) (.cal 29 (.acons (.var 5) (.acons (.var 6) (.acons (.var 4) .anil))))) (.sCons (.sRet (.cst (.bl false))) .sNil) .sNil) .sNil)) (.sCons (.sRet (.ife (.cmp .ne (.var 7) (.tup .anil)) (.not (.cal 21 (.acons (.var 5) (.acons (.bin .add (.var 6) (.cst (.int 1))) (.acons (.var 7) .anil))))) (.cal 21 (.acons (.var 5) (.acons (.bin .add (.var 6) (.cst (.int 1))) (.acons (.var 7) .anil)))))) .sNil))))))))))
def b36 : I := (.sCons (.sFor (.gv 1) (.iR (.acons (.blt .max2 (.acons (.cst (.int 1)) (.acons (.blt .min2 (.acons (.cst (.int 2)) (.acons (.blt .len (.acons (.var 0) .anil)) .anil))) .anil))) .anil)) (.sCons (.sIf (.not (.tv (.cal 35 (.acons (.cal 23 (.acons (.var 0) (.acons (.var 1) .anil))) .anil)))) (.sCons (.sRet (.cst (.bl false))) .sNil) .sNil) .sNil)) (.sCons (.sAsg (.gv 2) (.lst (.acons (.cal 20 (.acons (.cst (.int 3)) (.acons (.cst (.int 3)) (.acons (.tup (.acons (.tup (.acons (.cst (.int 1)) (.acons (.cst (.int 2)) (.acons (.cst (.int 0)) .anil)))) (.acons (.tup (.acons (.cst (.int 2)) (.acons (.cst (.int 1)) (.acons (.cst (.int 0)) .anil)))) (.acons (.tup (.acons (.cst (.int 0)) (.acons (.cst (.int 1)) (.acons (.cst (.int 1)) .anil)))) .anil)))) .anil)))) (.acons (.cal 20 (.acons (.cst (.int 7)) (.acons (.cst (.int 2)) (.acons (.tup (.acons (.tup (.acons (.cst (.int 3)) (.acons (.cst (.int 1)) .anil))) .anil)) .anil)))) (.acons (.cal 20 (.acons (.cst (.int 2)) (.acons (.cst (.int 2)) (.acons (.tup .anil) .anil)))) (.acons (.cal 20 (.acons (.cst (.int 5)) (.acons (.cst (.int 1)) (.acons (.tup (.acons (.tup (.acons (.cst (.int 4)) .anil)) .anil)) .anil)))) .anil)))))) (.sCons (.sIf (.cmp .ne (.var 2) (.lst (.acons (.tup (.acons (.tup (.acons (.cst (.int 1)) (.acons (.cst (.int 0)) (.acons (.cst (.int 1)) .anil)))) (.acons (.tup (.acons (.cst (.int 0)) (.acons (.cst (.int 1)) (.acons (.cst (.int 1)) .anil)))) .anil))) (.acons (.tup (.acons (.tup (.acons (.cst (.int 1)) (.acons (.cst (.int 5)) .anil))) .anil)) (.acons (.tup .anil) (.acons (.tup (.acons (.tup (.acons (.cst (.int 1)) .anil)) .anil)) .anil)))))) (.sCons (.sRet (.cst (.bl false))) .sNil) .sNil) (.sCons (.sRet (.and (.cal 22 (.acons (.cst (.int 3)) (.acons (.cst (.int 3)) (.acons (.tup (.acons (.tup (.acons (.cst (.int 1)) (.acons (.cst (.int 0)) (.acons (.cst (.int 1)) .anil)))) (.acons (.tup (.acons (.cst (.int 0)) (.acons (.cst (.int 1)) (.acons (.cst (.int 1)) .anil)))) .anil))) (.acons (.tup (.acons (.cst (.int 1)) (.acons (.cst (.int 1)) (.acons (.cst (.int 2)) .anil)))) .anil))))) (.one (.not (.cal 21 (.acons (.cst (.int 2)) (.acons (.cst (.int 2)) (.acons (.tup (.acons (.tup (.acons (.cst (.int 1)) (.acons (.cst (.int 1)) .anil))) (.acons (.tup (.acons (.cst (.int 0)) (.acons (.cst (.int 1)) .anil))) .anil))) .anil)))))))) .sNil))))
def rs : List DefR := [⟨"is_whole", ["value"], ["value"], top 8, ⟨1, 1, b0⟩, false⟩,
  ⟨"is_within", ["value", "least", "greatest"], ["value", "least", "greatest"], top 9, ⟨3, 3, b1⟩, false⟩,
  ⟨"is_prime", ["value"], ["value"], top 10, ⟨1, 1, b2⟩, false⟩,
  ⟨"is_residue_row", ["prime", "width", "value"], ["prime", "width", "value", "one"], top 11, ⟨3, 4, b3⟩, false⟩,
  ⟨"undone_residue", ["prime", "residue"], ["prime", "residue"], top 12, ⟨2, 2, b4⟩, false⟩,
  ⟨"require_within", ["value", "least", "greatest"], ["value", "least", "greatest"], top 13, ⟨3, 3, b5⟩, false⟩,
  ⟨"require_prime", ["value"], ["value"], top 14, ⟨1, 1, b6⟩, false⟩,
  ⟨"scaled_row", ["prime", "factor", "row"], ["prime", "factor", "row", "one"], top 16, ⟨3, 4, b7⟩, false⟩,
  ⟨"added_row", ["prime", "row", "other", "factor"], ["prime", "row", "other", "factor", "one", "two"], top 17, ⟨4, 6, b8⟩, false⟩,
  ⟨"lead_of", ["row"], ["row"], top 18, ⟨1, 1, b9⟩, true⟩,
  ⟨"leads_of", ["space"], ["space", "row"], top 19, ⟨1, 2, b10⟩, false⟩,
  ⟨"rest_of", ["prime", "space", "row"], ["prime", "space", "row", "line", "factor"], top 20, ⟨3, 5, b11⟩, false⟩,
  ⟨"is_in", ["prime", "space", "row"], ["prime", "space", "row"], top 21, ⟨3, 3, b12⟩, false⟩,
  ⟨"with_row", ["prime", "space", "row"], ["prime", "space", "row", "rest", "lead", "lines", "place", "line"], top 22, ⟨3, 8, b13⟩, false⟩,
  ⟨"reduced", ["prime", "rows"], ["prime", "rows", "space", "row"], top 23, ⟨2, 4, b14⟩, false⟩,
  ⟨"is_reduced", ["prime", "rows"], ["prime", "rows", "leads", "at", "row", "to", "lead", "low", "high"], top 24, ⟨2, 9, b15⟩, false⟩,
  ⟨"is_space_in", ["prime", "width", "value"], ["prime", "width", "value", "row"], top 28, ⟨3, 4, b16⟩, false⟩,
  ⟨"require_space", ["prime", "width", "value"], ["prime", "width", "value"], top 29, ⟨3, 3, b17⟩, false⟩,
  ⟨"require_row", ["prime", "width", "value"], ["prime", "width", "value"], top 30, ⟨3, 3, b18⟩, false⟩,
  ⟨"require_prime_and_width", ["prime", "width"], ["prime", "width"], top 31, ⟨2, 2, b19⟩, false⟩,
  ⟨"space_of", ["prime", "width", "rows"], ["prime", "width", "rows", "is_right", "row"], top 32, ⟨3, 5, b20⟩, false⟩,
  ⟨"is_space", ["prime", "width", "value"], ["prime", "width", "value"], top 33, ⟨3, 3, b21⟩, false⟩,
  ⟨"does_hold", ["prime", "width", "space", "row"], ["prime", "width", "space", "row"], top 34, ⟨4, 4, b22⟩, false⟩,
  ⟨"_law_kettle", ["_law_script", "_law_at"], ["_law_script", "_law_at", "_law_cell", "_law_great", "_law_mixed_here"], top 36, ⟨2, 5, b23⟩, false⟩,
  ⟨"_law_ladle", ["_law_kettle_here", "_law_total"], ["_law_kettle_here", "_law_total", "_law_one", "_law_two", "_law_found"], top 37, ⟨2, 5, b24⟩, false⟩,
  ⟨"_law_pick", ["_law_kettle_here", "_law_items"], ["_law_kettle_here", "_law_items"], top 38, ⟨2, 2, b25⟩, false⟩,
  ⟨"_law_undone", ["_law_prime", "_law_residue"], ["_law_prime", "_law_residue", "_law_one"], top 39, ⟨2, 3, b26⟩, false⟩,
  ⟨"_law_plus", ["_law_prime", "_law_row", "_law_other", "_law_factor"], ["_law_prime", "_law_row", "_law_other", "_law_factor", "_law_one", "_law_two"], top 40, ⟨4, 6, b27⟩, false⟩,
  ⟨"_law_base", ["_law_prime", "_law_rows", "_law_width"], ["_law_prime", "_law_rows", "_law_width", "_law_place", "_law_left", "_law_found", "_law_some", "_law_factor", "_law_head", "_law_row", "_law_one"], top 41, ⟨3, 11, b28⟩, false⟩,
  ⟨"_law_is_base", ["_law_prime", "_law_width", "_law_value"], ["_law_prime", "_law_width", "_law_value", "_law_row", "_law_one"], top 42, ⟨3, 5, b29⟩, false⟩,
  ⟨"_law_has", ["_law_prime", "_law_space", "_law_row"], ["_law_prime", "_law_space", "_law_row", "_law_line"], top 43, ⟨3, 4, b30⟩, false⟩,
  ⟨"_law_sums", ["_law_prime", "_law_rows", "_law_width"], ["_law_prime", "_law_rows", "_law_width", "_law_found", "_law_row", "_law_longer", "_law_factor", "_law_one"], top 44, ⟨3, 8, b31⟩, false⟩,
  ⟨"_law_lines", ["_law_kettle_here", "_law_prime", "_law_many", "_law_width"], ["_law_kettle_here", "_law_prime", "_law_many", "_law_width", "_law_turn", "_law_found", "_law_is_thin", "_law_row", "_law_place", "_law_entry"], top 45, ⟨4, 10, b32⟩, false⟩,
  ⟨"_law_mixed", ["_law_kettle_here", "_law_prime", "_law_width", "_law_rows"], ["_law_kettle_here", "_law_prime", "_law_width", "_law_rows", "_law_found", "_law_at", "_law_row", "_law_factor", "_law_here", "_law_other"], top 46, ⟨4, 10, b33⟩, false⟩,
  ⟨"_law_near", ["_law_kettle_here", "_law_prime", "_law_width", "_law_base_here"], ["_law_kettle_here", "_law_prime", "_law_width", "_law_base_here", "_law_found", "_law_row", "_law_at", "_law_place"], top 47, ⟨4, 8, b34⟩, false⟩,
  ⟨"_law_right", ["_law_kettle_here"], ["_law_kettle_here", "_law_rows", "_law_mixed_here", "_law_row", "_law_value", "_law_prime", "_law_width", "_law_told", "_law_due", "_law_every"], top 48, ⟨1, 10, b35⟩, false⟩,
  ⟨"law", ["_law_script"], ["_law_script", "_law_at", "_law_told"], top 49, ⟨1, 3, b36⟩, false⟩]
def lw : Lw := ⟨rs, ["isinstance", "int", "bool", "tuple", "len", "all", "zip", "next", "enumerate", "any", "abs", "max", "range", "list", "min", "set"], [("PRIMES", (.tup [(.int 2), (.int 3), (.int 5), (.int 7)])), ("MAX_WIDTH", (.int 150)), ("MAX_ROWS", (.int 200))], [("UNDONE", [(2, (.tup [(.int 0), (.int 1)])), (3, (.tup [(.int 0), (.int 1), (.int 2)])), (5, (.tup [(.int 0), (.int 1), (.int 3), (.int 2), (.int 4)])), (7, (.tup [(.int 0), (.int 1), (.int 4), (.int 5), (.int 2), (.int 3), (.int 6)]))])]⟩
abbrev P : Pg := lw.P
theorem fs0 : P.fs[0]? = some ⟨1, 1, b0⟩ := rfl
theorem fs1 : P.fs[1]? = some ⟨3, 3, b1⟩ := rfl
theorem fs2 : P.fs[2]? = some ⟨1, 1, b2⟩ := rfl
theorem fs3 : P.fs[3]? = some ⟨3, 4, b3⟩ := rfl
theorem fs4 : P.fs[4]? = some ⟨2, 2, b4⟩ := rfl
theorem fs5 : P.fs[5]? = some ⟨3, 3, b5⟩ := rfl
theorem fs6 : P.fs[6]? = some ⟨1, 1, b6⟩ := rfl
theorem fs7 : P.fs[7]? = some ⟨3, 4, b7⟩ := rfl
theorem fs8 : P.fs[8]? = some ⟨4, 6, b8⟩ := rfl
theorem fs9 : P.fs[9]? = some ⟨1, 1, b9⟩ := rfl
theorem fs10 : P.fs[10]? = some ⟨1, 2, b10⟩ := rfl
theorem fs11 : P.fs[11]? = some ⟨3, 5, b11⟩ := rfl
theorem fs12 : P.fs[12]? = some ⟨3, 3, b12⟩ := rfl
theorem fs13 : P.fs[13]? = some ⟨3, 8, b13⟩ := rfl
theorem fs14 : P.fs[14]? = some ⟨2, 4, b14⟩ := rfl
theorem fs15 : P.fs[15]? = some ⟨2, 9, b15⟩ := rfl
theorem fs16 : P.fs[16]? = some ⟨3, 4, b16⟩ := rfl
theorem fs17 : P.fs[17]? = some ⟨3, 3, b17⟩ := rfl
theorem fs18 : P.fs[18]? = some ⟨3, 3, b18⟩ := rfl
theorem fs19 : P.fs[19]? = some ⟨2, 2, b19⟩ := rfl
theorem fs20 : P.fs[20]? = some ⟨3, 5, b20⟩ := rfl
theorem fs21 : P.fs[21]? = some ⟨3, 3, b21⟩ := rfl
theorem fs22 : P.fs[22]? = some ⟨4, 4, b22⟩ := rfl
theorem fs23 : P.fs[23]? = some ⟨2, 5, b23⟩ := rfl
theorem fs24 : P.fs[24]? = some ⟨2, 5, b24⟩ := rfl
theorem fs25 : P.fs[25]? = some ⟨2, 2, b25⟩ := rfl
theorem fs26 : P.fs[26]? = some ⟨2, 3, b26⟩ := rfl
theorem fs27 : P.fs[27]? = some ⟨4, 6, b27⟩ := rfl
theorem fs28 : P.fs[28]? = some ⟨3, 11, b28⟩ := rfl
theorem fs29 : P.fs[29]? = some ⟨3, 5, b29⟩ := rfl
theorem fs30 : P.fs[30]? = some ⟨3, 4, b30⟩ := rfl
theorem fs31 : P.fs[31]? = some ⟨3, 8, b31⟩ := rfl
theorem fs32 : P.fs[32]? = some ⟨4, 10, b32⟩ := rfl
theorem fs33 : P.fs[33]? = some ⟨4, 10, b33⟩ := rfl
theorem fs34 : P.fs[34]? = some ⟨4, 8, b34⟩ := rfl
theorem fs35 : P.fs[35]? = some ⟨1, 10, b35⟩ := rfl
theorem fs36 : P.fs[36]? = some ⟨1, 3, b36⟩ := rfl
end K0
namespace K0
open Ev
theorem okRs : (lw.rs.all fun r => okR lw.M r) = true := by decide +kernel
end K0
-- H0a
namespace K0
open PySem PySem.Spec PyProof.Rows L2 Ev
abbrev RW : PySem.W.OpenRow := PySem.W.OpenLaw.row PySem.Challenge.rw_tablerings_k00_whole_spaces_and_their_ba
abbrev hkE : PySem.W.Hook := hookE 4 lw.fa lw.fn lw.ckb
def obE (s : PySem.W.SharedT) : AlE := obsEG 4 lw.fa lw.fn lw.ckb (HandSHeadRun.getT s)
theorem obE_eq (s : PySem.W.SharedT) : obE s = hkE.obs s.abs := obsEG_eq (HandSHeadRun.getT_eq s)
def lo0 : List PySem.Str := ["RingError", "InvalidRow", "InvalidSpace", "InvalidNumber", "PRIMES", "UNDONE", "is_whole", "is_within", "is_prime", "is_residue_row", "undone_residue", "require_within", "require_prime", "scaled_row", "added_row", "lead_of", "leads_of", "rest_of", "is_in", "with_row", "reduced", "is_reduced", "MAX_WIDTH", "MAX_ROWS", "is_space_in", "require_space", "require_row", "require_prime_and_width", "space_of", "is_space"]
def lo1 : List PySem.Str := ["does_hold", "_law_kettle", "_law_ladle", "_law_pick", "_law_undone", "_law_plus", "_law_base", "_law_is_base", "_law_has", "_law_sums", "_law_lines", "_law_mixed", "_law_near", "_law_right"]
def los : List PySem.Str := lo0 ++ lo1
theorem runF (w : World) : HandSHeadRun.RunEq RW (PySem.W.view RW.prog [49]) hkE obE 6000 los (w.withFollow "special-get-raises" false) := by
  intro os
  kernel_rfl
theorem runT (w : World) : HandSHeadRun.RunEq RW (PySem.W.view RW.prog [49]) hkE obE 6000 los (w.withFollow "special-get-raises" true) := by
  intro os
  kernel_rfl
theorem runE (w : World) : HandSHeadRun.RunEq RW (PySem.W.view RW.prog [49]) hkE obE 6000 los w :=
  PySem.W.byRow2 "special-get-raises" (P := fun w => HandSHeadRun.RunEq RW (PySem.W.view RW.prog [49]) hkE obE 6000 los w) runF runT w
theorem ws : RW.wellSaid = true := by decide +kernel
end K0
-- EvX
/-! EvX: the evaluator's rows as rewriting rules -/
namespace Ev.Rx
open PySem
@[simp] theorem on_ok (d : D) (h : Hh) (f : D → Hh → R) : (R.ok d h).on f = f d h := rfl
@[simp] theorem ons_oks (d : List D) (h : Hh) (f : List D → Hh → R) : (R.oks d h).ons f = f d h := rfl
@[simp] theorem onx_nx (σ : Sg) (h : Hh) (f : Sg → Hh → R) : (R.nx σ h).onx f = f σ h := rfl
@[simp] theorem onx_rt (d : D) (h : Hh) (f : Sg → Hh → R) : (R.rt d h).onx f = .rt d h := rfl
@[simp] theorem onx_bk (σ : Sg) (h : Hh) (f : Sg → Hh → R) : (R.bk σ h).onx f = .bk σ h := rfl
@[simp] theorem onx_ct (σ : Sg) (h : Hh) (f : Sg → Hh → R) : (R.ct σ h).onx f = .ct σ h := rfl
section
variable (P : Pg)
@[simp] theorem ev_var (n : Nat) (i : Nat) (σ : Sg) (h : Hh) : ev P (n + 1) (.var i) σ h = getV σ i h := rfl
@[simp] theorem ev_cst (n : Nat) (d : D) (σ : Sg) (h : Hh) : ev P (n + 1) (.cst d) σ h = .ok d h := rfl
@[simp] theorem ev_dct (n : Nat)  (σ : Sg) (h : Hh) : ev P (n + 1) (.dct) σ h = .ok .emp h := rfl
@[simp] theorem ev_glb (n : Nat) (k : Nat) (σ : Sg) (h : Hh) : ev P (n + 1) (.glb k) σ h = (match P.cs[k]? with | some d => .ok d h | none => .no) := rfl
@[simp] theorem ev_anil (n : Nat)  (σ : Sg) (h : Hh) : ev P (n + 1) (.anil) σ h = .oks [] h := rfl
@[simp] theorem ev_one (n : Nat) (a : I) (σ : Sg) (h : Hh) : ev P (n + 1) (.one a) σ h = ev P n a σ h := rfl
@[simp] theorem ev_tv (n : Nat) (a : I) (σ : Sg) (h : Hh) : ev P (n + 1) (.tv a) σ h = ev P n a σ h := rfl
@[simp] theorem ev_pno (n : Nat)  (σ : Sg) (h : Hh) : ev P (n + 1) (.pno) σ h = .ok .non h := rfl
@[simp] theorem ev_retN (n : Nat)  (σ : Sg) (h : Hh) : ev P (n + 1) (.sRetN) σ h = .rt .non h := rfl
@[simp] theorem ev_pass (n : Nat)  (σ : Sg) (h : Hh) : ev P (n + 1) (.sPass) σ h = .nx σ h := rfl
@[simp] theorem ev_brk (n : Nat)  (σ : Sg) (h : Hh) : ev P (n + 1) (.sBrk) σ h = .bk σ h := rfl
@[simp] theorem ev_cnt (n : Nat)  (σ : Sg) (h : Hh) : ev P (n + 1) (.sCnt) σ h = .ct σ h := rfl
@[simp] theorem ev_nil (n : Nat)  (σ : Sg) (h : Hh) : ev P (n + 1) (.sNil) σ h = .nx σ h := rfl
@[simp] theorem ev_never (n : Nat)  (σ : Sg) (h : Hh) : ev P (n + 1) (.sNever) σ h = .no := rfl
def gdxK (P : Pg) (k : Nat) (x : D) (h1 : Hh) : R := match x with
  | .int i => match P.ds[k]? with
    | some ks => match lookI i ks with
      | some d => .ok d h1
      | none => .no
    | none => .no
  | _ => .no
def tupK (ds : List D) (h : Hh) : R := match Nat.ble ds.length line with
  | true => .ok (mkT ds) h
  | false => .no
def lstK (ds : List D) (h : Hh) : R := match Nat.ble ds.length line with
  | true => newL h ds
  | false => .no
def negK (x : D) (h : Hh) : R := match x with
  | .int i => .ok (.int (-i)) h
  | _ => .no
def poK (x : D) (h : Hh) : R := match x with
  | .int i => .ok (.int i) h
  | _ => .no
def appK (x y : D) (h2 : Hh) : R := match x with
  | .ptr a => match h2[a]? with
    | some ds => match Nat.blt ds.length line && !isPtr y with
      | true => .ok .non (h2.set a (ds ++ [y]))
      | false => .no
    | none => .no
  | _ => .no
def popK (x : D) (h1 : Hh) : R := match x with
  | .ptr a => match h1[a]? with
    | some ds => match ds.getLast? with
      | some d => .ok d (h1.set a ds.dropLast)
      | none => .no
    | none => .no
  | _ => .no
def rngK (ds : List D) (h1 : Hh) : R := match ds with
  | [.int j] => match Nat.blt j.natAbs (2 ^ 60) with
    | true => .osr (.rg 0 1 j.toNat) h1
    | false => .no
  | [.int i, .int j] => match Nat.blt i.natAbs (2 ^ 60) && Nat.blt j.natAbs (2 ^ 60) with
    | true => .osr (.rg i 1 (j - i).toNat) h1
    | false => .no
  | [.int i, .int j, .int c] => match Nat.blt i.natAbs (2 ^ 60) && Nat.blt j.natAbs (2 ^ 60) && decide (c = -1) with
    | true => .osr (.rg i (-1) (i - j).toNat) h1
    | false => .no
  | _ => .no
def extK (x y : D) (h2 : Hh) : R := match x, y with
  | .ptr a, .ptr b => match h2[a]?, h2[b]? with
    | some ds, some es => match es.any isPtr with
      | true => .no
      | false => match catO ds es with
        | some fs => .ok .non (h2.set a fs)
        | none => .no
    | _, _ => .no
  | _, _ => .no
def idxK (x y : D) (h2 : Hh) : R := match x, y with
  | .tup ds, .int z => match intsD ds with
    | some is => match idxO z is with
      | some i => .ok (.int (i : Int)) h2
      | none => .no
    | none => .no
  | _, _ => .no
def fst0K (x : D) (h1 : Hh) : R := match itemsOf h1 x with
  | some ds => match intsD ds with
    | some is => .ok (fstD is) h1
    | none => .no
  | none => .no
def sqK (x : D) (h1 : Hh) : R := match itemsOf h1 x with
  | some _ => .osr (.sq x) h1
  | none => .no
def enK (x : D) (h1 : Hh) : R := match itemsOf h1 x with
  | some _ => .osr (.en x) h1
  | none => .no
def zpK (x y : D) (h2 : Hh) : R := match itemsOf h2 x, itemsOf h2 y with
  | some _, some _ => .osr (.zp x y) h2
  | _, _ => .no
def augXK (x : D) (y : D) (σ : Sg) (z : D) (h5 : Hh) : R := match setAt x y z h5 with
  | some h6 => .nx σ h6
  | none => .no
/-- a comprehension's turn -/
def lcT (n : Nat) (tg ifs e : I) (own : List Nat) (σ : Sg) (d : D) (h2 : Hh) : R := match asg (ev P n) tg d (wipeD σ own) h2 with
  | .nx σ2 h3 => (ev P n ifs σ2 h3).onb fun k h4 => match k with
    | true => (ev P n e σ2 h4).on fun x h5 => .ok x h5
    | false => .nx σ2 h4
  | _ => .no
/-- a loop's turn -/
def forT (n : Nat) (tg b : I) (d : D) (σ1 : Sg) (h2 : Hh) : R := (asg (ev P n) tg d σ1 h2).onx fun σ2 h3 => ev P n b σ2 h3
def c_gdx (k : Nat) (r : R) : R := r.on fun x h1 => gdxK P k x h1
@[simp] theorem ev_gdx (n k : Nat) (e : I) (σ : Sg) (h : Hh) : ev P (n + 1) (.gdx k e) σ h = c_gdx P k (ev P n e σ h) := rfl
@[simp] theorem k_gdx (k : Nat) (x : D) (h1 : Hh) : c_gdx P k (.ok x h1) = gdxK P k x h1 := rfl
def c_tup  (r : R) : R := r.ons fun x h1 => tupK x h1
@[simp] theorem k_tup  (x : List D) (h1 : Hh) : c_tup  (.oks x h1) = tupK x h1 := rfl
@[simp] theorem ev_tup (n : Nat)  (a : I) (σ : Sg) (h : Hh) : ev P (n + 1) (.tup a) σ h = c_tup  (ev P n a σ h) := rfl
def c_lst  (r : R) : R := r.ons fun x h1 => lstK x h1
@[simp] theorem k_lst  (x : List D) (h1 : Hh) : c_lst  (.oks x h1) = lstK x h1 := rfl
@[simp] theorem ev_lst (n : Nat)  (a : I) (σ : Sg) (h : Hh) : ev P (n + 1) (.lst a) σ h = c_lst  (ev P n a σ h) := rfl
def c_neg  (r : R) : R := r.on fun x h1 => negK x h1
@[simp] theorem k_neg  (x : D) (h1 : Hh) : c_neg  (.ok x h1) = negK x h1 := rfl
@[simp] theorem ev_neg (n : Nat)  (a : I) (σ : Sg) (h : Hh) : ev P (n + 1) (.neg a) σ h = c_neg  (ev P n a σ h) := rfl
def c_po  (r : R) : R := r.on fun x h1 => poK x h1
@[simp] theorem k_po  (x : D) (h1 : Hh) : c_po  (.ok x h1) = poK x h1 := rfl
@[simp] theorem ev_po (n : Nat)  (a : I) (σ : Sg) (h : Hh) : ev P (n + 1) (.po a) σ h = c_po  (ev P n a σ h) := rfl
def c_pop  (r : R) : R := r.on fun x h1 => popK x h1
@[simp] theorem k_pop  (x : D) (h1 : Hh) : c_pop  (.ok x h1) = popK x h1 := rfl
@[simp] theorem ev_pop (n : Nat)  (a : I) (σ : Sg) (h : Hh) : ev P (n + 1) (.pop a) σ h = c_pop  (ev P n a σ h) := rfl
def c_iR  (r : R) : R := r.ons fun x h1 => rngK x h1
@[simp] theorem k_iR  (x : List D) (h1 : Hh) : c_iR  (.oks x h1) = rngK x h1 := rfl
@[simp] theorem ev_iR (n : Nat)  (a : I) (σ : Sg) (h : Hh) : ev P (n + 1) (.iR a) σ h = c_iR  (ev P n a σ h) := rfl
def c_iS  (r : R) : R := r.on fun x h1 => sqK x h1
@[simp] theorem k_iS  (x : D) (h1 : Hh) : c_iS  (.ok x h1) = sqK x h1 := rfl
@[simp] theorem ev_iS (n : Nat)  (a : I) (σ : Sg) (h : Hh) : ev P (n + 1) (.iS a) σ h = c_iS  (ev P n a σ h) := rfl
def c_fst0  (r : R) : R := r.on fun x h1 => fst0K x h1
@[simp] theorem k_fst0  (x : D) (h1 : Hh) : c_fst0  (.ok x h1) = fst0K x h1 := rfl
@[simp] theorem ev_fst0 (n : Nat)  (a : I) (σ : Sg) (h : Hh) : ev P (n + 1) (.fst0 a) σ h = c_fst0  (ev P n a σ h) := rfl
def c_lset  (r : R) : R := r.on fun x h1 => lsetAt x h1
@[simp] theorem k_lset  (x : D) (h1 : Hh) : c_lset  (.ok x h1) = lsetAt x h1 := rfl
@[simp] theorem ev_lset (n : Nat)  (a : I) (σ : Sg) (h : Hh) : ev P (n + 1) (.lset a) σ h = c_lset  (ev P n a σ h) := rfl
def c_iE  (r : R) : R := r.on fun x h1 => enK x h1
@[simp] theorem k_iE  (x : D) (h1 : Hh) : c_iE  (.ok x h1) = enK x h1 := rfl
@[simp] theorem ev_iE (n : Nat)  (a : I) (σ : Sg) (h : Hh) : ev P (n + 1) (.iE a) σ h = c_iE  (ev P n a σ h) := rfl
def isiK (b : Bi) (d : D) (h : Hh) : R := builtin b [d] h
def rtK (d : D) (h : Hh) : R := .rt d h
@[simp] theorem rtK_eq (d : D) (h : Hh) : rtK d h = .rt d h := rfl
def c_isi (b : Bi) (r : R) : R := r.on fun x h1 => isiK b x h1
@[simp] theorem k_isi (b : Bi) (x : D) (h1 : Hh) : c_isi b (.ok x h1) = isiK b x h1 := rfl
@[simp] theorem ev_isi (n : Nat) (b : Bi) (a : I) (σ : Sg) (h : Hh) : ev P (n + 1) (.isi b a) σ h = c_isi b (ev P n a σ h) := rfl
def c_blt (b : Bi) (r : R) : R := r.ons fun x h1 => builtin b x h1
@[simp] theorem k_blt (b : Bi) (x : List D) (h1 : Hh) : c_blt b (.oks x h1) = builtin b x h1 := rfl
@[simp] theorem ev_blt (n : Nat) (b : Bi) (a : I) (σ : Sg) (h : Hh) : ev P (n + 1) (.blt b a) σ h = c_blt b (ev P n a σ h) := rfl
def c_ret  (r : R) : R := r.on fun x h1 => rtK x h1
@[simp] theorem k_ret  (x : D) (h1 : Hh) : c_ret  (.ok x h1) = rtK x h1 := rfl
@[simp] theorem ev_ret (n : Nat)  (a : I) (σ : Sg) (h : Hh) : ev P (n + 1) (.sRet a) σ h = c_ret  (ev P n a σ h) := rfl
def c_cal (n f : Nat) (r : R) : R := r.ons fun ds h1 => callF P n f ds h1
@[simp] theorem ev_cal (n f : Nat) (a : I) (σ : Sg) (h : Hh) : ev P (n + 1) (.cal f a) σ h = c_cal P n f (ev P n a σ h) := rfl
@[simp] theorem k_cal (n f : Nat) (ds : List D) (h1 : Hh) : c_cal P n f (.oks ds h1) = callF P n f ds h1 := rfl
def c_exp (σ : Sg) (r : R) : R := r.on fun _ h1 => .nx σ h1
@[simp] theorem ev_exp (n : Nat) (e : I) (σ : Sg) (h : Hh) : ev P (n + 1) (.sExp e) σ h = c_exp σ (ev P n e σ h) := rfl
@[simp] theorem k_exp (σ : Sg) (x : D) (h1 : Hh) : c_exp σ (.ok x h1) = .nx σ h1 := rfl
def c_asg (n : Nat) (g : I) (σ : Sg) (r : R) : R := r.on fun d h1 => asg (ev P n) g d σ h1
@[simp] theorem ev_asg (n : Nat) (g e : I) (σ : Sg) (h : Hh) : ev P (n + 1) (.sAsg g e) σ h = c_asg P n g σ (ev P n e σ h) := rfl
@[simp] theorem k_asg (n : Nat) (g : I) (σ : Sg) (x : D) (h1 : Hh) : c_asg P n g σ (.ok x h1) = asg (ev P n) g x σ h1 := rfl
/-- then the rest -/
def c_seq (n : Nat) (b : I) (r : R) : R := r.onx fun σ1 h1 => ev P n b σ1 h1
@[simp] theorem ev_cons (n : Nat) (a b : I) (σ : Sg) (h : Hh) : ev P (n + 1) (.sCons a b) σ h = c_seq P n b (ev P n a σ h) := rfl
@[simp] theorem k_nx (n : Nat) (b : I) (σ : Sg) (h : Hh) : c_seq P n b (.nx σ h) = ev P n b σ h := rfl
@[simp] theorem k_rt (n : Nat) (b : I) (d : D) (h : Hh) : c_seq P n b (.rt d h) = .rt d h := rfl
@[simp] theorem k_bk (n : Nat) (b : I) (σ : Sg) (h : Hh) : c_seq P n b (.bk σ h) = .bk σ h := rfl
@[simp] theorem k_ct (n : Nat) (b : I) (σ : Sg) (h : Hh) : c_seq P n b (.ct σ h) = .ct σ h := rfl
/-- a test: a, then b, else c -/
def c_if (n : Nat) (a b : I) (σ : Sg) (r : R) : R := r.onb fun k h1 => match k with
  | true => ev P n a σ h1
  | false => ev P n b σ h1
@[simp] theorem ev_if (n : Nat) (t a b : I) (σ : Sg) (h : Hh) : ev P (n + 1) (.sIf t a b) σ h = c_if P n a b σ (ev P n t σ h) := rfl
@[simp] theorem ev_ife (n : Nat) (t a b : I) (σ : Sg) (h : Hh) : ev P (n + 1) (.ife t a b) σ h = c_if P n a b σ (ev P n t σ h) := rfl
@[simp] theorem k_if (n : Nat) (a b : I) (σ : Sg) (k : Bool) (h1 : Hh) : c_if P n a b σ (.ok (.bl k) h1) = if k = true then ev P n a σ h1 else ev P n b σ h1 := by cases k <;> rfl
def c_and (n : Nat) (b : I) (σ : Sg) (r : R) : R := r.on fun x h1 => match x with
  | .bl true => ev P n b σ h1
  | .bl false => .ok (.bl false) h1
  | _ => .no
@[simp] theorem ev_and (n : Nat) (a b : I) (σ : Sg) (h : Hh) : ev P (n + 1) (.and a b) σ h = c_and P n b σ (ev P n a σ h) := rfl
@[simp] theorem k_and (n : Nat) (b : I) (σ : Sg) (k : Bool) (h1 : Hh) : c_and P n b σ (.ok (.bl k) h1) = if k = true then ev P n b σ h1 else .ok (.bl false) h1 := by cases k <;> rfl
def c_or (n : Nat) (b : I) (σ : Sg) (r : R) : R := r.on fun x h1 => match x with
  | .bl false => ev P n b σ h1
  | .bl true => .ok (.bl true) h1
  | _ => .no
@[simp] theorem ev_or (n : Nat) (a b : I) (σ : Sg) (h : Hh) : ev P (n + 1) (.or a b) σ h = c_or P n b σ (ev P n a σ h) := rfl
@[simp] theorem k_or (n : Nat) (b : I) (σ : Sg) (k : Bool) (h1 : Hh) : c_or P n b σ (.ok (.bl k) h1) = if k = true then .ok (.bl true) h1 else ev P n b σ h1 := by cases k <;> rfl
def c_not (r : R) : R := r.onb fun b h1 => .ok (.bl !b) h1
@[simp] theorem ev_not (n : Nat) (a : I) (σ : Sg) (h : Hh) : ev P (n + 1) (.not a) σ h = c_not (ev P n a σ h) := rfl
@[simp] theorem k_not (k : Bool) (h1 : Hh) : c_not (.ok (.bl k) h1) = .ok (.bl !k) h1 := rfl
def c_wh (n : Nat) (t b : I) (σ : Sg) (h : Hh) : R := loopW (fun σ1 h1 => ev P n t σ1 h1) (fun σ1 h1 => ev P n b σ1 h1) turns σ h
theorem ev_wh (n : Nat) (t b : I) (σ : Sg) (h : Hh) : ev P (n + 1) (.sWh t b) σ h = c_wh P n t b σ h := rfl
def c_for (n : Nat) (tg b : I) (σ : Sg) (r : R) : R := r.onsr fun s h1 => loopF s (forT P n tg b) turns 0 σ h1
@[simp] theorem ev_for (n : Nat) (tg it b : I) (σ : Sg) (h : Hh) : ev P (n + 1) (.sFor tg it b) σ h = c_for P n tg b σ (ev P n it σ h) := rfl
@[simp] theorem k_for (n : Nat) (tg b : I) (σ : Sg) (s : Src) (h1 : Hh) : c_for P n tg b σ (.osr s h1) = loopF s (forT P n tg b) turns 0 σ h1 := rfl
def c_lc (n : Nat) (tg ifs e : I) (own : List Nat) (σ : Sg) (r : R) : R := r.onsr fun s h1 => (loopC s (lcT P n tg ifs e own σ) turns 0 [] h1).ons fun ds h2 => newL h2 ds
@[simp] theorem ev_lc (n : Nat) (tg it ifs e : I) (own : List Nat) (σ : Sg) (h : Hh) : ev P (n + 1) (.lc tg it ifs e own) σ h = c_lc P n tg ifs e own σ (ev P n it σ h) := rfl
def c_new (r : R) : R := r.ons fun ds h2 => newL h2 ds
@[simp] theorem k_new (ds : List D) (h : Hh) : c_new (.oks ds h) = newL h ds := rfl
@[simp] theorem k_lc (n : Nat) (tg ifs e : I) (own : List Nat) (σ : Sg) (s : Src) (h1 : Hh) : c_lc P n tg ifs e own σ (.osr s h1) = c_new (loopC s (lcT P n tg ifs e own σ) turns 0 [] h1) := rfl
def c_acons (n : Nat) (r : I) (σ : Sg) (x : R) : R := x.on fun d h1 => (ev P n r σ h1).ons fun ds h2 => .oks (d :: ds) h2
def d_cons (d : D) (x : R) : R := x.ons fun ds h2 => .oks (d :: ds) h2
@[simp] theorem ev_acons (n : Nat) (e r : I) (σ : Sg) (h : Hh) : ev P (n + 1) (.acons e r) σ h = c_acons P n r σ (ev P n e σ h) := rfl
@[simp] theorem k_acons (n : Nat) (r : I) (σ : Sg) (d : D) (h1 : Hh) : c_acons P n r σ (.ok d h1) = d_cons d (ev P n r σ h1) := rfl
@[simp] theorem k_dcons (d : D) (ds : List D) (h2 : Hh) : d_cons d (.oks ds h2) = .oks (d :: ds) h2 := rfl
def c_astar (n : Nat) (r : I) (σ : Sg) (x : R) : R := x.on fun d h1 => match itemsOf h1 d with
  | some es => (ev P n r σ h1).ons fun ds h2 => .oks (es ++ ds) h2
  | none => .no
def d_star (es : List D) (x : R) : R := x.ons fun ds h2 => .oks (es ++ ds) h2
@[simp] theorem ev_astar (n : Nat) (e r : I) (σ : Sg) (h : Hh) : ev P (n + 1) (.astar e r) σ h = c_astar P n r σ (ev P n e σ h) := rfl
theorem k_astar (n : Nat) (r : I) (σ : Sg) (d : D) (h1 : Hh) (es : List D) (q : itemsOf h1 d = some es) : c_astar P n r σ (.ok d h1) = d_star es (ev P n r σ h1) := by
  show (match itemsOf h1 d with | some es => (ev P n r σ h1).ons fun ds h2 => .oks (es ++ ds) h2 | none => .no) = _
  rw [q]
  rfl
@[simp] theorem k_astarT (n : Nat) (r : I) (σ : Sg) (h1 : Hh) (es : List D) : c_astar P n r σ (.ok (.tup es) h1) = d_star es (ev P n r σ h1) := rfl
@[simp] theorem k_dstar (es ds : List D) (h2 : Hh) : d_star es (.oks ds h2) = .oks (es ++ ds) h2 := rfl
def c_bin (n : Nat) (o : BOp) (b : I) (σ : Sg) (r : R) : R := r.on fun x h1 => (ev P n b σ h1).on fun y h2 => binop o x y h2
def d_bin (o : BOp) (x : D) (r : R) : R := r.on fun y h2 => binop o x y h2
@[simp] theorem ev_bin (n : Nat) (o : BOp) (a b : I) (σ : Sg) (h : Hh) : ev P (n + 1) (.bin o a b) σ h = c_bin P n o b σ (ev P n a σ h) := rfl
@[simp] theorem k_bin (n : Nat) (o : BOp) (b : I) (σ : Sg) (x : D) (h1 : Hh) : c_bin P n o b σ (.ok x h1) = d_bin o x (ev P n b σ h1) := rfl
@[simp] theorem kd_bin (o : BOp) (x y : D) (h2 : Hh) : d_bin o x (.ok y h2) = binop o x y h2 := rfl
def c_cmp (n : Nat) (o : COp) (b : I) (σ : Sg) (r : R) : R := r.on fun x h1 => (ev P n b σ h1).on fun y h2 => cmpop o x y h2
def d_cmp (o : COp) (x : D) (r : R) : R := r.on fun y h2 => cmpop o x y h2
@[simp] theorem ev_cmp (n : Nat) (o : COp) (a b : I) (σ : Sg) (h : Hh) : ev P (n + 1) (.cmp o a b) σ h = c_cmp P n o b σ (ev P n a σ h) := rfl
@[simp] theorem k_cmp (n : Nat) (o : COp) (b : I) (σ : Sg) (x : D) (h1 : Hh) : c_cmp P n o b σ (.ok x h1) = d_cmp o x (ev P n b σ h1) := rfl
@[simp] theorem kd_cmp (o : COp) (x y : D) (h2 : Hh) : d_cmp o x (.ok y h2) = cmpop o x y h2 := rfl
def c_ix (n : Nat)  (b : I) (σ : Sg) (r : R) : R := r.on fun x h1 => (ev P n b σ h1).on fun y h2 => index x y h2
def d_ix  (x : D) (r : R) : R := r.on fun y h2 => index x y h2
@[simp] theorem ev_ix (n : Nat)  (a b : I) (σ : Sg) (h : Hh) : ev P (n + 1) (.ix a b) σ h = c_ix P n b σ (ev P n a σ h) := rfl
@[simp] theorem k_ix (n : Nat)  (b : I) (σ : Sg) (x : D) (h1 : Hh) : c_ix P n b σ (.ok x h1) = d_ix x (ev P n b σ h1) := rfl
@[simp] theorem kd_ix  (x y : D) (h2 : Hh) : d_ix x (.ok y h2) = index x y h2 := rfl
def c_app (n : Nat)  (b : I) (σ : Sg) (r : R) : R := r.on fun x h1 => (ev P n b σ h1).on fun y h2 => appK x y h2
def d_app  (x : D) (r : R) : R := r.on fun y h2 => appK x y h2
@[simp] theorem ev_app (n : Nat)  (a b : I) (σ : Sg) (h : Hh) : ev P (n + 1) (.app a b) σ h = c_app P n b σ (ev P n a σ h) := rfl
@[simp] theorem k_app (n : Nat)  (b : I) (σ : Sg) (x : D) (h1 : Hh) : c_app P n b σ (.ok x h1) = d_app x (ev P n b σ h1) := rfl
@[simp] theorem kd_app  (x y : D) (h2 : Hh) : d_app x (.ok y h2) = appK x y h2 := rfl
def c_ext (n : Nat)  (b : I) (σ : Sg) (r : R) : R := r.on fun x h1 => (ev P n b σ h1).on fun y h2 => extK x y h2
def d_ext  (x : D) (r : R) : R := r.on fun y h2 => extK x y h2
@[simp] theorem ev_ext (n : Nat)  (a b : I) (σ : Sg) (h : Hh) : ev P (n + 1) (.ext a b) σ h = c_ext P n b σ (ev P n a σ h) := rfl
@[simp] theorem k_ext (n : Nat)  (b : I) (σ : Sg) (x : D) (h1 : Hh) : c_ext P n b σ (.ok x h1) = d_ext x (ev P n b σ h1) := rfl
@[simp] theorem kd_ext  (x y : D) (h2 : Hh) : d_ext x (.ok y h2) = extK x y h2 := rfl
def c_iZ (n : Nat)  (b : I) (σ : Sg) (r : R) : R := r.on fun x h1 => (ev P n b σ h1).on fun y h2 => zpK x y h2
def d_iZ  (x : D) (r : R) : R := r.on fun y h2 => zpK x y h2
@[simp] theorem ev_iZ (n : Nat)  (a b : I) (σ : Sg) (h : Hh) : ev P (n + 1) (.iZ a b) σ h = c_iZ P n b σ (ev P n a σ h) := rfl
@[simp] theorem k_iZ (n : Nat)  (b : I) (σ : Sg) (x : D) (h1 : Hh) : c_iZ P n b σ (.ok x h1) = d_iZ x (ev P n b σ h1) := rfl
@[simp] theorem kd_iZ  (x y : D) (h2 : Hh) : d_iZ x (.ok y h2) = zpK x y h2 := rfl
def c_idx (n : Nat)  (b : I) (σ : Sg) (r : R) : R := r.on fun x h1 => (ev P n b σ h1).on fun y h2 => idxK x y h2
def d_idx  (x : D) (r : R) : R := r.on fun y h2 => idxK x y h2
@[simp] theorem ev_idx (n : Nat)  (a b : I) (σ : Sg) (h : Hh) : ev P (n + 1) (.idx a b) σ h = c_idx P n b σ (ev P n a σ h) := rfl
@[simp] theorem k_idx (n : Nat)  (b : I) (σ : Sg) (x : D) (h1 : Hh) : c_idx P n b σ (.ok x h1) = d_idx x (ev P n b σ h1) := rfl
@[simp] theorem kd_idx  (x y : D) (h2 : Hh) : d_idx x (.ok y h2) = idxK x y h2 := rfl
def c_stp (n : Nat)  (b : I) (σ : Sg) (r : R) : R := r.on fun x h1 => (ev P n b σ h1).on fun y h2 => stepAt x y h2
def d_stp  (x : D) (r : R) : R := r.on fun y h2 => stepAt x y h2
@[simp] theorem ev_stp (n : Nat)  (a b : I) (σ : Sg) (h : Hh) : ev P (n + 1) (.stp a b) σ h = c_stp P n b σ (ev P n a σ h) := rfl
@[simp] theorem k_stp (n : Nat)  (b : I) (σ : Sg) (x : D) (h1 : Hh) : c_stp P n b σ (.ok x h1) = d_stp x (ev P n b σ h1) := rfl
@[simp] theorem kd_stp  (x y : D) (h2 : Hh) : d_stp x (.ok y h2) = stepAt x y h2 := rfl
def c_frz (m : Nat) (r : R) : R := r.on fun x h1 => frzAt m x h1
@[simp] theorem k_frz (m : Nat) (x : D) (h1 : Hh) : c_frz m (.ok x h1) = frzAt m x h1 := rfl
@[simp] theorem ev_frz (n : Nat) (a : I) (σ : Sg) (h : Hh) : ev P (n + 1) (.frz a) σ h = c_frz h.length (ev P n a σ h) := rfl
def turnB (n : Nat) (tg it1 tg1 ifs e : I) (own own1 : List Nat) (σ : Sg) (d : D) (acc : List D) (h2 : Hh) : R := match asg (ev P n) tg d (wipeD σ own) h2 with
        | .nx σ2 h3 => (ev P n it1 σ2 h3).onsr fun s1 h4 => loopA s1 (fun d1 h5 => lcT P n tg1 ifs e own1 σ2 d1 h5) turns 0 acc h4
        | _ => .no
def c_lc2 (n : Nat) (tg tg1 it1 ifs e : I) (own own1 : List Nat) (σ : Sg) (r : R) : R := r.onsr fun s h1 => (loopB s (fun d acc h2 => turnB P n tg it1 tg1 ifs e own own1 σ d acc h2) turns 0 [] h1).ons fun ds h2 => newL h2 ds
@[simp] theorem ev_lc2 (n : Nat) (tg it tg1 it1 ifs e : I) (own own1 : List Nat) (σ : Sg) (h : Hh) : ev P (n + 1) (.lc2 tg it tg1 it1 ifs e own own1) σ h = c_lc2 P n tg tg1 it1 ifs e own own1 σ (ev P n it σ h) := rfl
@[simp] theorem k_lc2 (n : Nat) (tg tg1 it1 ifs e : I) (own own1 : List Nat) (σ : Sg) (s : Src) (h1 : Hh) : c_lc2 P n tg tg1 it1 ifs e own own1 σ (.osr s h1) = c_new (loopB s (fun d acc h2 => turnB P n tg it1 tg1 ifs e own own1 σ d acc h2) turns 0 [] h1) := rfl
def lcA (n : Nat) (tg1 ifs e : I) (own1 : List Nat) (acc : List D) (σ2 : Sg) (r : R) : R := r.onsr fun s1 h4 => loopA s1 (fun d1 h5 => lcT P n tg1 ifs e own1 σ2 d1 h5) turns 0 acc h4
@[simp] theorem k_lcA (n : Nat) (tg1 ifs e : I) (own1 : List Nat) (acc : List D) (σ2 : Sg) (s : Src) (h : Hh) : lcA P n tg1 ifs e own1 acc σ2 (.osr s h) = loopA s (fun d1 h5 => lcT P n tg1 ifs e own1 σ2 d1 h5) turns 0 acc h := rfl
theorem turnB_nx {n : Nat} {tg it1 tg1 ifs e : I} {own own1 : List Nat} {σ σ2 : Sg} {d : D} {acc : List D} {h2 h3 : Hh} (q : asg (ev P n) tg d (wipeD σ own) h2 = .nx σ2 h3) : turnB P n tg it1 tg1 ifs e own own1 σ d acc h2 = lcA P n tg1 ifs e own1 acc σ2 (ev P n it1 σ2 h3) := by
  unfold turnB
  rw [q]
  rfl
def c_sl (n : Nat) (lo hi : I) (σ : Sg) (r : R) : R := r.on fun x h1 => (ev P n lo σ h1).on fun l h2 => (ev P n hi σ h2).on fun u h3 => slice x l u h3
def d_sl (n : Nat) (hi : I) (σ : Sg) (x : D) (r : R) : R := r.on fun l h2 => (ev P n hi σ h2).on fun u h3 => slice x l u h3
def e_sl (x l : D) (r : R) : R := r.on fun u h3 => slice x l u h3
@[simp] theorem ev_sl (n : Nat) (a lo hi : I) (σ : Sg) (h : Hh) : ev P (n + 1) (.sl a lo hi) σ h = c_sl P n lo hi σ (ev P n a σ h) := rfl
@[simp] theorem k_sl (n : Nat) (lo hi : I) (σ : Sg) (x : D) (h1 : Hh) : c_sl P n lo hi σ (.ok x h1) = d_sl P n hi σ x (ev P n lo σ h1) := rfl
@[simp] theorem kd_sl (n : Nat) (hi : I) (σ : Sg) (x l : D) (h1 : Hh) : d_sl P n hi σ x (.ok l h1) = e_sl x l (ev P n hi σ h1) := rfl
@[simp] theorem ke_sl (x l u : D) (h1 : Hh) : e_sl x l (.ok u h1) = slice x l u h1 := rfl
def c_chn (n : Nat) (o p : COp) (b c : I) (σ : Sg) (r : R) : R := r.on fun x h1 => (ev P n b σ h1).on fun y h2 => (cmpop o x y h2).onb fun k h3 => match k with
      | true => (ev P n c σ h3).on fun z h4 => cmpop p y z h4
      | false => .ok (.bl false) h3
def d_chn (n : Nat) (o p : COp) (c : I) (σ : Sg) (x : D) (r : R) : R := r.on fun y h2 => (cmpop o x y h2).onb fun k h3 => match k with
      | true => (ev P n c σ h3).on fun z h4 => cmpop p y z h4
      | false => .ok (.bl false) h3
def e_chn (n : Nat) (p : COp) (c : I) (σ : Sg) (y : D) (r : R) : R := r.onb fun k h3 => match k with
      | true => (ev P n c σ h3).on fun z h4 => cmpop p y z h4
      | false => .ok (.bl false) h3
@[simp] theorem ev_chn (n : Nat) (o p : COp) (a b c : I) (σ : Sg) (h : Hh) : ev P (n + 1) (.chn o p a b c) σ h = c_chn P n o p b c σ (ev P n a σ h) := rfl
@[simp] theorem k_chn (n : Nat) (o p : COp) (b c : I) (σ : Sg) (x : D) (h1 : Hh) : c_chn P n o p b c σ (.ok x h1) = d_chn P n o p c σ x (ev P n b σ h1) := rfl
@[simp] theorem kd_chn (n : Nat) (o p : COp) (c : I) (σ : Sg) (x y : D) (h1 : Hh) : d_chn P n o p c σ x (.ok y h1) = e_chn P n p c σ y (cmpop o x y h1) := rfl
@[simp] theorem ke_chn (n : Nat) (p : COp) (c : I) (σ : Sg) (y : D) (k : Bool) (h1 : Hh) : e_chn P n p c σ y (.ok (.bl k) h1) = if k = true then d_cmp p y (ev P n c σ h1) else .ok (.bl false) h1 := by cases k <;> rfl
def c_par2 (n i j : Nat) (b : I) (σ : Sg) (r : R) : R := r.on fun x h1 => (ev P n b σ h1).on fun y h2 => .nx ((σ.set i x).set j y) h2
def d_par2 (i j : Nat) (σ : Sg) (x : D) (r : R) : R := r.on fun y h2 => .nx ((σ.set i x).set j y) h2
@[simp] theorem ev_par2 (n i j : Nat) (a b : I) (σ : Sg) (h : Hh) : ev P (n + 1) (.sPar2 i j a b) σ h = c_par2 P n i j b σ (ev P n a σ h) := rfl
@[simp] theorem k_par2 (n i j : Nat) (b : I) (σ : Sg) (x : D) (h1 : Hh) : c_par2 P n i j b σ (.ok x h1) = d_par2 i j σ x (ev P n b σ h1) := rfl
@[simp] theorem kd_par2 (i j : Nat) (σ : Sg) (x y : D) (h1 : Hh) : d_par2 i j σ x (.ok y h1) = .nx ((σ.set i x).set j y) h1 := rfl
def c_par3 (n i j k : Nat) (b c : I) (σ : Sg) (r : R) : R := r.on fun x h1 => (ev P n b σ h1).on fun y h2 => (ev P n c σ h2).on fun z h3 => .nx (((σ.set i x).set j y).set k z) h3
def d_par3 (n i j k : Nat) (c : I) (σ : Sg) (x : D) (r : R) : R := r.on fun y h2 => (ev P n c σ h2).on fun z h3 => .nx (((σ.set i x).set j y).set k z) h3
def e_par3 (i j k : Nat) (σ : Sg) (x y : D) (r : R) : R := r.on fun z h3 => .nx (((σ.set i x).set j y).set k z) h3
@[simp] theorem ev_par3 (n i j k : Nat) (a b c : I) (σ : Sg) (h : Hh) : ev P (n + 1) (.sPar3 i j k a b c) σ h = c_par3 P n i j k b c σ (ev P n a σ h) := rfl
@[simp] theorem k_par3 (n i j k : Nat) (b c : I) (σ : Sg) (x : D) (h1 : Hh) : c_par3 P n i j k b c σ (.ok x h1) = d_par3 P n i j k c σ x (ev P n b σ h1) := rfl
@[simp] theorem kd_par3 (n i j k : Nat) (c : I) (σ : Sg) (x y : D) (h1 : Hh) : d_par3 P n i j k c σ x (.ok y h1) = e_par3 i j k σ x y (ev P n c σ h1) := rfl
@[simp] theorem ke_par3 (i j k : Nat) (σ : Sg) (x y z : D) (h1 : Hh) : e_par3 i j k σ x y (.ok z h1) = .nx (((σ.set i x).set j y).set k z) h1 := rfl
def c_aug (n i : Nat) (o : BOp) (e : I) (σ : Sg) (r : R) : R := r.on fun x h1 => (ev P n e σ h1).on fun y h2 => (augop o x y h2).on fun z h3 => .nx (σ.set i z) h3
def d_aug (i : Nat) (o : BOp) (σ : Sg) (x : D) (r : R) : R := r.on fun y h2 => (augop o x y h2).on fun z h3 => .nx (σ.set i z) h3
def e_aug (i : Nat) (σ : Sg) (r : R) : R := r.on fun z h3 => .nx (σ.set i z) h3
@[simp] theorem ev_aug (n i : Nat) (o : BOp) (e : I) (σ : Sg) (h : Hh) : ev P (n + 1) (.sAug i o e) σ h = c_aug P n i o e σ (getV σ i h) := rfl
@[simp] theorem k_aug (n i : Nat) (o : BOp) (e : I) (σ : Sg) (x : D) (h1 : Hh) : c_aug P n i o e σ (.ok x h1) = d_aug i o σ x (ev P n e σ h1) := rfl
@[simp] theorem kd_aug (i : Nat) (o : BOp) (σ : Sg) (x y : D) (h1 : Hh) : d_aug i o σ x (.ok y h1) = e_aug i σ (augop o x y h1) := rfl
@[simp] theorem ke_aug (i : Nat) (σ : Sg) (z : D) (h1 : Hh) : e_aug i σ (.ok z h1) = .nx (σ.set i z) h1 := rfl
def c_augX (n : Nat) (i : I) (op : BOp) (e : I) (σ : Sg) (r : R) : R := r.on fun x h1 => (ev P n i σ h1).on fun y h2 => match x with
      | .ptr a => (index (.ptr a) y h2).on fun u h3 => (ev P n e σ h3).on fun v h4 => (augop op u v h4).on fun z h5 => augXK (.ptr a) y σ z h5
      | _ => .no
def d_augX (n : Nat) (op : BOp) (e : I) (σ : Sg) (a : Nat) (r : R) : R := r.on fun y h2 => (index (.ptr a) y h2).on fun u h3 => (ev P n e σ h3).on fun v h4 => (augop op u v h4).on fun z h5 => augXK (.ptr a) y σ z h5
def e_augX (n : Nat) (op : BOp) (e : I) (σ : Sg) (a : Nat) (y : D) (r : R) : R := r.on fun u h3 => (ev P n e σ h3).on fun v h4 => (augop op u v h4).on fun z h5 => augXK (.ptr a) y σ z h5
def f_augX (op : BOp) (σ : Sg) (a : Nat) (y u : D) (r : R) : R := r.on fun v h4 => (augop op u v h4).on fun z h5 => augXK (.ptr a) y σ z h5
def g_augX (σ : Sg) (a : Nat) (y : D) (r : R) : R := r.on fun z h5 => augXK (.ptr a) y σ z h5
theorem ev_augX0 (n : Nat) (o i : I) (op : BOp) (e : I) (σ : Sg) (h : Hh) : ev P (n + 1) (.sAugX o i op e) σ h = c_augX P n i op e σ (ev P n o σ h) := rfl
@[simp] theorem ev_augX (n : Nat) (o i : I) (op : BOp) (e : I) (σ : Sg) (h : Hh) : ev P (n + 1) (.sAugX o i op e) σ h = c_augX P n i op e σ (ev P n o σ h) := rfl
@[simp] theorem k_augX (n : Nat) (i : I) (op : BOp) (e : I) (σ : Sg) (a : Nat) (h1 : Hh) : c_augX P n i op e σ (.ok (.ptr a) h1) = d_augX P n op e σ a (ev P n i σ h1) := rfl
@[simp] theorem kd_augX (n : Nat) (op : BOp) (e : I) (σ : Sg) (a : Nat) (y : D) (h1 : Hh) : d_augX P n op e σ a (.ok y h1) = e_augX P n op e σ a y (index (.ptr a) y h1) := rfl
@[simp] theorem ke_augX (n : Nat) (op : BOp) (e : I) (σ : Sg) (a : Nat) (y u : D) (h1 : Hh) : e_augX P n op e σ a y (.ok u h1) = f_augX op σ a y u (ev P n e σ h1) := rfl
@[simp] theorem kf_augX (op : BOp) (σ : Sg) (a : Nat) (y u v : D) (h1 : Hh) : f_augX op σ a y u (.ok v h1) = g_augX σ a y (augop op u v h1) := rfl
@[simp] theorem kg_augX (σ : Sg) (a : Nat) (y z : D) (h1 : Hh) : g_augX σ a y (.ok z h1) = augXK (.ptr a) y σ z h1 := rfl
/-! targets -/
@[simp] theorem asg_gv (n i : Nat) (d : D) (σ : Sg) (h : Hh) : asg (ev P n) (.gv i) d σ h = .nx (σ.set i d) h := rfl
@[simp] theorem asg_gt (n : Nat) (g : I) (ds : List D) (σ : Sg) (h : Hh) : asg (ev P n) (.gt g) (.tup ds) σ h = asgs g ds σ h := rfl
@[simp] theorem asg_gtm (n : Nat) (g : I) (ds : List D) (σ : Sg) (h : Hh) : asg (ev P n) (.gt g) (.mtp ds) σ h = asgs g ds σ h := rfl
theorem asg_gtp {a : Nat} {ds : List D} {h : Hh} (q : h[a]? = some ds) (n : Nat) (g : I) (σ : Sg) : asg (ev P n) (.gt g) (.ptr a) σ h = asgs g ds σ h := by
  show (match h[a]? with | some ds => asgs g ds σ h | none => .no) = _
  rw [q]
@[simp] theorem asgs_nil (σ : Sg) (h : Hh) : asgs .gnil [] σ h = .nx σ h := rfl
@[simp] theorem asgs_cons (i : Nat) (r : I) (d : D) (ds : List D) (σ : Sg) (h : Hh) : asgs (.gcons (.gv i) r) (d :: ds) σ h = asgs r ds (σ.set i d) h := rfl
def c_gx (n : Nat) (i : I) (d : D) (σ : Sg) (r : R) : R := r.on fun x h2 => (ev P n i σ h2).on fun y h3 => augXK x y σ d h3
def d_gx (d : D) (σ : Sg) (x : D) (r : R) : R := r.on fun y h3 => augXK x y σ d h3
@[simp] theorem asg_gx (n : Nat) (o i : I) (d : D) (σ : Sg) (h : Hh) : asg (ev P n) (.gx o i) d σ h = c_gx P n i d σ (ev P n o σ h) := rfl
@[simp] theorem k_gx (n : Nat) (i : I) (d : D) (σ : Sg) (x : D) (h1 : Hh) : c_gx P n i d σ (.ok x h1) = d_gx d σ x (ev P n i σ h1) := rfl
@[simp] theorem kd_gx (d : D) (σ : Sg) (x y : D) (h1 : Hh) : d_gx d σ x (.ok y h1) = augXK x y σ d h1 := rfl
/-! turns -/
@[simp] theorem forT_gv (n i : Nat) (b : I) (d : D) (σ : Sg) (h : Hh) : forT P n (.gv i) b d σ h = ev P n b (σ.set i d) h := rfl
theorem forT_eq (n : Nat) (tg b : I) (d : D) (σ : Sg) (h : Hh) : forT P n tg b d σ h = c_seq P n b (asg (ev P n) tg d σ h) := rfl
def lcK (n : Nat) (ifs e : I) (r : R) : R := match r with
  | .nx σ2 h3 => (ev P n ifs σ2 h3).onb fun k h4 => match k with
    | true => (ev P n e σ2 h4).on fun x h5 => .ok x h5
    | false => .nx σ2 h4
  | _ => .no
theorem lcT_eq (n : Nat) (tg ifs e : I) (own : List Nat) (σ : Sg) (d : D) (h : Hh) : lcT P n tg ifs e own σ d h = lcK P n ifs e (asg (ev P n) tg d (wipeD σ own) h) := rfl
def lcJ (n : Nat) (e : I) (σ : Sg) (r : R) : R := r.onb fun k h4 => match k with
    | true => (ev P n e σ h4).on fun x h5 => .ok x h5
    | false => .nx σ h4
@[simp] theorem lcK_nx (n : Nat) (ifs e : I) (σ : Sg) (h : Hh) : lcK P n ifs e (.nx σ h) = lcJ P n e σ (ev P n ifs σ h) := rfl
def lcL (r : R) : R := r.on fun x h5 => .ok x h5
@[simp] theorem lcL_ok (d : D) (h : Hh) : lcL (.ok d h) = .ok d h := rfl
@[simp] theorem lcJ_ok (n : Nat) (e : I) (σ : Sg) (k : Bool) (h : Hh) : lcJ P n e σ (.ok (.bl k) h) = if k = true then lcL (ev P n e σ h) else .nx σ h := by cases k <;> rfl
/-! calls -/
theorem callF_at {n f : Nat} {ds : List D} {h : Hh} {fd : Fd} {σ : Sg} (e : P.fs[f]? = some fd) (e2 : entry fd ds = some σ) : callF P n f ds h = called (ev P n fd.body σ h) h.length := by
  unfold callF
  rw [e]
  dsimp only
  rw [e2]
end
@[simp] theorem called_rt (d : D) (h : Hh) (n : Nat) : called (.rt d h) n = back n d h := rfl
@[simp] theorem called_nx (σ : Sg) (h : Hh) (n : Nat) : called (.nx σ h) n = .ok .non (h.take n) := rfl
@[simp] theorem back_int (n : Nat) (i : Int) (h : Hh) : back n (.int i) h = .ok (.int i) (h.take n) := rfl
@[simp] theorem back_bl (n : Nat) (i : Bool) (h : Hh) : back n (.bl i) h = .ok (.bl i) (h.take n) := rfl
@[simp] theorem back_tup (n : Nat) (i : List D) (h : Hh) : back n (.tup i) h = .ok (.tup i) (h.take n) := rfl
@[simp] theorem back_non (n : Nat) (h : Hh) : back n .non h = .ok .non (h.take n) := rfl
/-! values -/
@[simp] theorem binop_add (i j : Int) (h : Hh) : binop .add (.int i) (.int j) h = .ok (.int (i + j)) h := rfl
@[simp] theorem binop_sub (i j : Int) (h : Hh) : binop .sub (.int i) (.int j) h = .ok (.int (i - j)) h := rfl
theorem binop_mul {i j : Int} (q : mulOk i j = true) (h : Hh) : binop .mul (.int i) (.int j) h = .ok (.int (i * j)) h := by
  show (match mulOk i j with | true => R.ok (.int (i * j)) h | false => R.no) = _
  rw [q]
theorem binop_mod {i j : Int} (q : posI j = true) (h : Hh) : binop .mod (.int i) (.int j) h = .ok (.int (i % j)) h := by
  show (match posI j with | true => R.ok (.int (i % j)) h | false => R.no) = _
  rw [q]
theorem binop_fdiv {i j : Int} (q : divOk j = true) (h : Hh) : binop .fdiv (.int i) (.int j) h = .ok (.int (i / j)) h := by
  show (match divOk j with | true => R.ok (.int (i / j)) h | false => R.no) = _
  rw [q]
@[simp] theorem augop_add (i j : Int) (h : Hh) : augop .add (.int i) (.int j) h = .ok (.int (i + j)) h := rfl
@[simp] theorem augop_sub (i j : Int) (h : Hh) : augop .sub (.int i) (.int j) h = .ok (.int (i - j)) h := rfl
theorem posI_of {j : Int} (h : 0 < j) : posI j = true := by
  match j, h with
  | .ofNat (n + 1), _ => rfl
theorem smallI_of {j : Int} (h : j.natAbs < 2 ^ 64) : smallI j = true := by
  unfold smallI
  exact Nat.blt_eq.mpr h
theorem mulOk_l {i j : Int} (h : i.natAbs < 2 ^ 64) : mulOk i j = true := by
  unfold mulOk
  rw [smallI_of h]
  rfl
theorem mulOk_r {i j : Int} (h : j.natAbs < 2 ^ 64) : mulOk i j = true := by
  unfold mulOk
  rw [smallI_of h, Bool.or_true]
theorem divOk_of {j : Int} (h : 0 < j) (h2 : j.natAbs < 2 ^ 64) : divOk j = true := by
  unfold divOk
  rw [posI_of h, Bool.true_and]
  exact Nat.blt_eq.mpr (Nat.lt_of_lt_of_le h2 (Nat.pow_le_pow_right (by decide) (by decide)))
@[simp] theorem cmp_lt (i j : Int) (h : Hh) : cmpop .lt (.int i) (.int j) h = .ok (.bl (decide (i < j))) h := rfl
@[simp] theorem cmp_le (i j : Int) (h : Hh) : cmpop .le (.int i) (.int j) h = .ok (.bl (decide (i ≤ j))) h := rfl
@[simp] theorem cmp_gt (i j : Int) (h : Hh) : cmpop .gt (.int i) (.int j) h = .ok (.bl (decide (j < i))) h := rfl
@[simp] theorem cmp_ge (i j : Int) (h : Hh) : cmpop .ge (.int i) (.int j) h = .ok (.bl (decide (j ≤ i))) h := rfl
@[simp] theorem cmp_eq (x y : D) (h : Hh) : cmpop .eq x y h = oB (pyEq h x y) (fun b => b) h := rfl
@[simp] theorem cmp_ne (x y : D) (h : Hh) : cmpop .ne x y h = oB (pyEq h x y) (fun b => !b) h := rfl
@[simp] theorem oB_some (b : Bool) (f : Bool → Bool) (h : Hh) : oB (some b) f h = .ok (.bl (f b)) h := rfl
/-! the heap behind a base -/
theorem h_get0 (h l : Hh) : (h ++ l)[h.length]? = l[0]? := by
  rw [List.getElem?_append_right (Nat.le_refl _), Nat.sub_self]
theorem h_get (h l : Hh) (i : Nat) : (h ++ l)[h.length + i]? = l[i]? := by
  rw [List.getElem?_append_right (by omega), Nat.add_sub_cancel_left]
theorem h_set0 (h l : Hh) (d : List D) : (h ++ l).set h.length d = h ++ l.set 0 d := by
  rw [List.set_append_right _ _ (Nat.le_refl _), Nat.sub_self]
theorem h_set (h l : Hh) (i : Nat) (d : List D) : (h ++ l).set (h.length + i) d = h ++ l.set i d := by
  rw [List.set_append_right _ _ (by omega), Nat.add_sub_cancel_left]
theorem h_take (h l : Hh) : (h ++ l).take h.length = h := List.take_left ..
theorem h_take0 (h : Hh) : h.take h.length = h := List.take_length ..
theorem newL0 (h : Hh) (ds : List D) : newL h ds = .ok (.ptr h.length) (h ++ [ds]) := rfl
theorem newL1 (h : Hh) (l : Hh) (ds : List D) : newL (h ++ l) ds = .ok (.ptr (h.length + l.length)) (h ++ (l ++ [ds])) := by
  unfold newL
  rw [List.length_append, List.append_assoc]
/-! lists of intL -/
def intL (xs : List Int) : List D := xs.map D.int
@[simp] theorem intL_len (xs : List Int) : (intL xs).length = xs.length := List.length_map ..
theorem intL_any (xs : List Int) : (intL xs).any isPtr = false := by
  induction xs with
  | nil => rfl
  | cons x xs ih => exact ih
@[simp] theorem mkT_intL (xs : List Int) : mkT (intL xs) = .tup (intL xs) := by
  unfold mkT
  rw [intL_any]
theorem intL_app (xs ys : List Int) : intL xs ++ intL ys = intL (xs ++ ys) := (List.map_append ..).symm
theorem intL_get (xs : List Int) (i : Nat) : (intL xs)[i]? = xs[i]?.map D.int := List.getElem?_map ..
theorem intL_set (xs : List Int) (i : Nat) (x : Int) : (intL xs).set i (.int x) = intL (xs.set i x) := (List.map_set ..).symm
theorem intL_rep (n : Nat) (x : Int) : (List.replicate n [D.int x]).flatten = intL (List.replicate n x) := by
  induction n with
  | zero => rfl
  | succ n ih => rw [List.replicate_succ, List.flatten_cons, ih, List.replicate_succ]; rfl
end Ev.Rx
-- EvY
/-! EvY: loops by invariants, values -/
namespace Ev.Rx
open PySem
theorem loopF_inv {s : Src} {f : D → Sg → Hh → R} (St : Nat → Sg → Hh → Prop) (n : Nat)
    (step : ∀ i σ h, i < n → St i σ h → ∃ d σ' h', srcAt h s i = some (some d) ∧ (f d σ h = .nx σ' h' ∨ f d σ h = .ct σ' h') ∧ St (i + 1) σ' h')
    (done : ∀ σ h, St n σ h → srcAt h s n = some none) :
    ∀ (m i : Nat) (σ : Sg) (h : Hh), n < m + i → i ≤ n → St i σ h → ∃ σ' h', loopF s f m i σ h = .nx σ' h' ∧ St n σ' h'
  | 0, i, σ, h, h1, h2, _ => by omega
  | m + 1, i, σ, h, h1, h2, st => by
    rcases Nat.lt_or_ge i n with hi | hi
    · obtain ⟨d, σ', h', e1, e2, st'⟩ := step i σ h hi st
      obtain ⟨σ2, h2', r, st2⟩ := loopF_inv St n step done m (i + 1) σ' h' (by omega) (by omega) st'
      refine ⟨σ2, h2', ?_, st2⟩
      unfold loopF
      rw [e1]
      dsimp only
      rcases e2 with e2 | e2 <;> rw [e2] <;> exact r
    · have e : i = n := by omega
      subst e
      refine ⟨σ, h, ?_, st⟩
      unfold loopF
      rw [done σ h st]
/-- a loop whose states are known -/
theorem loopF_det {s : Src} {f : D → Sg → Hh → R} (S : Nat → Sg) (H : Nat → Hh) (n : Nat) (hn : n < 1000000)
    (step : ∀ i, i < n → ∃ d, srcAt (H i) s i = some (some d) ∧ f d (S i) (H i) = .nx (S (i + 1)) (H (i + 1)))
    (done : srcAt (H n) s n = some none) : loopF s f turns 0 (S 0) (H 0) = .nx (S n) (H n) := by
  obtain ⟨σ', h', e, e1, e2⟩ := loopF_inv (s := s) (f := f) (fun i σ h => σ = S i ∧ h = H i) n (fun i σ h hi st => by
    obtain ⟨rfl, rfl⟩ := st
    obtain ⟨d, q1, q2⟩ := step i hi
    exact ⟨d, _, _, q1, .inl q2, rfl, rfl⟩) (fun σ h st => by
    obtain ⟨rfl, rfl⟩ := st
    exact done) turns 0 (S 0) (H 0) (by unfold turns; omega) (Nat.zero_le _) ⟨rfl, rfl⟩
  rw [e, e1, e2]
theorem loopW_inv {t : Sg → Hh → R} {f : Sg → Hh → R} (St : Nat → Sg → Hh → Prop) (fin : Sg → Hh → Prop)
    (step : ∀ k σ h, St k σ h → ∃ b h1, t σ h = .ok (.bl b) h1 ∧ (b = false → fin σ h1) ∧ (b = true → ∃ σ' h' k', k' < k ∧ f σ h1 = .nx σ' h' ∧ St k' σ' h')) :
    ∀ (m k : Nat) (σ : Sg) (h : Hh), k < m → St k σ h → ∃ σ' h', loopW t f m σ h = .nx σ' h' ∧ fin σ' h'
  | 0, k, σ, h, h1, _ => by omega
  | m + 1, k, σ, h, h1, st => by
    obtain ⟨b, h1', e, e1, e2⟩ := step k σ h st
    unfold loopW
    rw [e]
    cases b with
    | false => exact ⟨σ, h1', rfl, e1 rfl⟩
    | true =>
      obtain ⟨σ', h', k', lt, e3, st'⟩ := e2 rfl
      obtain ⟨σ2, h2, r, z⟩ := loopW_inv St fin step m k' σ' h' (by omega) st'
      refine ⟨σ2, h2, ?_, z⟩
      show (match f σ h1' with
        | .nx σ' h' => loopW t f m σ' h'
        | .ct σ' h' => loopW t f m σ' h'
        | .bk σ' h' => .nx σ' h'
        | .rt d h' => .rt d h'
        | _ => .no) = _
      rw [e3]
      exact r
theorem loopC_at {s : Src} {f : D → Hh → R} {h : Hh} (g : D → Option D) (xs : List D) (hs : ∀ i, i ≤ xs.length → srcAt h s i = some xs[i]?)
    (hf : ∀ x ∈ xs, (∃ y, g x = some y ∧ f x h = .ok y h) ∨ (g x = none ∧ ∃ σ, f x h = .nx σ h)) (hl : xs.length < 1000000) :
    ∀ (m i : Nat) (acc : List D), xs.length < m + i → i ≤ xs.length → acc.length ≤ i → loopC s f m i acc h = .oks (acc.reverse ++ (xs.drop i).filterMap g) h
  | 0, i, acc, h1, h2, _ => by omega
  | m + 1, i, acc, h1, h2, h3 => by
    unfold loopC
    rw [hs i h2]
    rcases Nat.lt_or_ge i xs.length with hi | hi
    · rw [List.getElem?_eq_getElem hi]
      dsimp only
      rw [List.drop_eq_getElem_cons hi, List.filterMap_cons]
      rcases hf xs[i] (List.getElem_mem hi) with ⟨y, e1, e2⟩ | ⟨e1, σ, e2⟩
      · rw [e2, e1]
        dsimp only
        rw [loopC_at g xs hs hf hl m (i + 1) (y :: acc) (by omega) (by omega) (by simp; omega)]
        simp
      · rw [e2, e1]
        dsimp only
        rw [loopC_at g xs hs hf hl m (i + 1) acc (by omega) (by omega) (by omega)]
    · rw [List.getElem?_eq_none hi]
      dsimp only
      have e : Nat.ble acc.length line = true := Nat.ble_eq.mpr (by unfold line; omega)
      rw [e, List.drop_eq_nil_of_le hi]
      simp
theorem loopC_fm {s : Src} {f : D → Hh → R} {h : Hh} (g : D → Option D) (xs : List D) (hs : ∀ i, i ≤ xs.length → srcAt h s i = some xs[i]?)
    (hf : ∀ x ∈ xs, (∃ y, g x = some y ∧ f x h = .ok y h) ∨ (g x = none ∧ ∃ σ, f x h = .nx σ h)) (hl : xs.length < 1000000) :
    loopC s f turns 0 [] h = .oks (xs.filterMap g) h := by
  rw [loopC_at g xs hs hf hl turns 0 [] (by unfold turns; omega) (Nat.zero_le _) (Nat.zero_le _)]
  rfl
theorem loopC_map {s : Src} {f : D → Hh → R} {h : Hh} (g : D → D) (xs : List D) (hs : ∀ i, i ≤ xs.length → srcAt h s i = some xs[i]?)
    (hf : ∀ x ∈ xs, f x h = .ok (g x) h) (hl : xs.length < 1000000) :
    loopC s f turns 0 [] h = .oks (xs.map g) h := by
  rw [loopC_fm (fun x => some (g x)) xs hs (fun x hx => .inl ⟨_, rfl, hf x hx⟩) hl]
  congr 1
  induction xs with
  | nil => rfl
  | cons x xs ih => simp
@[simp] theorem getV_zero (d : D) (σ : Sg) (h : Hh) : getV (d :: σ) 0 h = match isUna d with | true => .no | false => .ok d h := rfl
@[simp] theorem getV_succ (d : D) (σ : Sg) (i : Nat) (h : Hh) : getV (d :: σ) (i + 1) h = getV σ i h := rfl
@[simp] theorem una_int (i : Int) : isUna (.int i) = false := Eq.trans rfl rfl
@[simp] theorem una_bl (i : Bool) : isUna (.bl i) = false := Eq.trans rfl rfl
@[simp] theorem una_tup (i : List D) : isUna (.tup i) = false := Eq.trans rfl rfl
@[simp] theorem una_mtp (i : List D) : isUna (.mtp i) = false := Eq.trans rfl rfl
@[simp] theorem una_frl (i : List D) : isUna (.frl i) = false := Eq.trans rfl rfl
@[simp] theorem una_ptr (i : Nat) : isUna (.ptr i) = false := Eq.trans rfl rfl
@[simp] theorem una_non : isUna .non = false := Eq.trans rfl rfl
theorem known_una {v : D} (k : known v = true) : isUna v = false := by cases v <;> first | rfl | cases k
@[simp] theorem ptr_int (i : Int) : isPtr (.int i) = false := Eq.trans rfl rfl
@[simp] theorem ptr_bl (i : Bool) : isPtr (.bl i) = false := Eq.trans rfl rfl
@[simp] theorem ptr_tup (i : List D) : isPtr (.tup i) = false := Eq.trans rfl rfl
@[simp] theorem ptr_non : isPtr .non = false := Eq.trans rfl rfl
@[simp] theorem ptr_str (x : Str) : isPtr (.str x) = false := Eq.trans rfl rfl
@[simp] theorem tru_bl (h : Hh) (b : Bool) : tru h (.bl b) = some b := rfl
@[simp] theorem items_tup (h : Hh) (ds : List D) : itemsOf h (.tup ds) = some ds := rfl
@[simp] theorem items_frl (h : Hh) (ds : List D) : itemsOf h (.frl ds) = some ds := rfl
@[simp] theorem items_mtp (h : Hh) (ds : List D) : itemsOf h (.mtp ds) = some ds := rfl
@[simp] theorem items_ptr (h : Hh) (a : Nat) : itemsOf h (.ptr a) = h[a]? := rfl
@[simp] theorem known_int (i : Int) : known (.int i) = true := Eq.trans rfl rfl
@[simp] theorem known_bl (i : Bool) : known (.bl i) = true := Eq.trans rfl rfl
@[simp] theorem known_str (i : Str) : known (.str i) = true := Eq.trans rfl rfl
@[simp] theorem known_tup (i : List D) : known (.tup i) = true := Eq.trans rfl rfl
@[simp] theorem known_ptr (i : Nat) : known (.ptr i) = true := Eq.trans rfl rfl
@[simp] theorem known_non : known .non = true := Eq.trans rfl rfl
@[simp] theorem known_emp : known .emp = true := Eq.trans rfl rfl
@[simp] theorem tyI_int (i : Int) : tyI (.int i) = true := Eq.trans rfl rfl
@[simp] theorem tyB_int (i : Int) : tyB (.int i) = false := Eq.trans rfl rfl
theorem isi_int {v : D} (k : known v = true) (h : Hh) : isiK .isIntB v h = .ok (.bl (tyI v)) h := by
  show (match known v with | true => R.ok (.bl (tyI v)) h | false => .no) = _
  rw [k]
theorem isi_bl {v : D} (k : known v = true) (h : Hh) : isiK .isBoolB v h = .ok (.bl (tyB v)) h := by
  show (match known v with | true => R.ok (.bl (tyB v)) h | false => .no) = _
  rw [k]
theorem isi_tup {v : D} (k : known v = true) (h : Hh) : isiK .isTupB v h = .ok (.bl (tyT v)) h := by
  show (match known v with | true => R.ok (.bl (tyT v)) h | false => .no) = _
  rw [k]
theorem tupK_of {ds : List D} (hl : ds.length ≤ 1000000) (h : Hh) : tupK ds h = .ok (mkT ds) h := by
  unfold tupK
  have e : Nat.ble ds.length line = true := Nat.ble_eq.mpr (by unfold line; omega)
  rw [e]
theorem lstK_of {ds : List D} (hl : ds.length ≤ 1000000) (h : Hh) : lstK ds h = newL h ds := by
  unfold lstK
  have e : Nat.ble ds.length line = true := Nat.ble_eq.mpr (by unfold line; omega)
  rw [e]
theorem catO_of {ds es : List D} (hl : ds.length + es.length ≤ 1000000) : catO ds es = some (ds ++ es) := by
  unfold catO
  have e : Nat.ble (ds.length + es.length) line = true := Nat.ble_eq.mpr (by unfold line; omega)
  rw [e]
theorem repO_of {ds : List D} {k : Int} (hl : ds.length * k.toNat ≤ 1000000) (hk : k.natAbs < 2 ^ 62) : repO ds k = some (List.replicate k.toNat ds).flatten := by
  unfold repO
  have e : (Nat.ble (ds.length * k.toNat) line && Nat.blt k.natAbs (2 ^ 62)) = true := by
    rw [Bool.and_eq_true]
    exact ⟨Nat.ble_eq.mpr (by unfold line; omega), Nat.blt_eq.mpr hk⟩
  rw [e]
theorem bin_addT {ds es : List D} (hl : ds.length + es.length ≤ 1000000) (h : Hh) : binop .add (.tup ds) (.tup es) h = .ok (.tup (ds ++ es)) h := by
  show (match catO ds es with | some fs => R.ok (.tup fs) h | none => .no) = _
  rw [catO_of hl]
theorem bin_addL {a b : Nat} {ds es : List D} {h : Hh} (ea : h[a]? = some ds) (eb : h[b]? = some es) (hl : ds.length + es.length ≤ 1000000) : binop .add (.ptr a) (.ptr b) h = newL h (ds ++ es) := by
  show (match h[a]?, h[b]? with | some ds, some es => (match catO ds es with | some fs => newL h fs | none => .no) | _, _ => .no) = _
  rw [ea, eb]
  dsimp only
  rw [catO_of hl]
theorem bin_repT {ds : List D} {k : Int} (hl : ds.length * k.toNat ≤ 1000000) (hk : k.natAbs < 2 ^ 62) (h : Hh) : binop .mul (.tup ds) (.int k) h = .ok (.tup (List.replicate k.toNat ds).flatten) h := by
  show (match repO ds k with | some fs => R.ok (.tup fs) h | none => .no) = _
  rw [repO_of hl hk]
theorem bin_repL {a : Nat} {ds : List D} {k : Int} {h : Hh} (ea : h[a]? = some ds) (hl : ds.length * k.toNat ≤ 1000000) (hk : k.natAbs < 2 ^ 62) : binop .mul (.ptr a) (.int k) h = newL h (List.replicate k.toNat ds).flatten := by
  show (match h[a]? with | some ds => (match repO ds k with | some fs => newL h fs | none => .no) | none => .no) = _
  rw [ea]
  dsimp only
  rw [repO_of hl hk]
theorem bi_len {x : D} {ds : List D} {h : Hh} (e : itemsOf h x = some ds) : builtin .len [x] h = .ok (.int ds.length) h := by
  show (match itemsOf h x with | some ds => R.ok (.int ds.length) h | none => .no) = _
  rw [e]
@[simp] theorem bi_lenT (ds : List D) (h : Hh) : builtin .len [.tup ds] h = .ok (.int ds.length) h := rfl
@[simp] theorem bi_intI (i : Int) (h : Hh) : builtin .int [.int i] h = .ok (.int i) h := rfl
@[simp] theorem bi_intB (b : Bool) (h : Hh) : builtin .int [.bl b] h = .ok (.int (if b then 1 else 0)) h := rfl
@[simp] theorem bi_abs (i : Int) (h : Hh) : builtin .abs [.int i] h = .ok (.int (if i < 0 then -i else i)) h := rfl
@[simp] theorem bi_max (i j : Int) (h : Hh) : builtin .max2 [.int i, .int j] h = .ok (.int (if j > i then j else i)) h := rfl
@[simp] theorem bi_min (i j : Int) (h : Hh) : builtin .min2 [.int i, .int j] h = .ok (.int (if j < i then j else i)) h := rfl
theorem bi_tuple {a : Nat} {ds : List D} {h : Hh} (e : h[a]? = some ds) : builtin .tuple [.ptr a] h = .ok (mkT ds) h := by
  show (match h[a]? with | some ds => R.ok (mkT ds) h | none => .no) = _
  rw [e]
@[simp] theorem bi_tupleT (ds : List D) (h : Hh) : builtin .tuple [.tup ds] h = .ok (.tup ds) h := rfl
@[simp] theorem bi_listT (ds : List D) (h : Hh) : builtin .list [.tup ds] h = newL h ds := rfl
theorem bi_all {a : Nat} {ds : List D} {bs : List Bool} {h : Hh} (e : h[a]? = some ds) (e2 : bls ds = some bs) : builtin .all [.ptr a] h = .ok (.bl (bs.all id)) h := by
  show (match h[a]? with | some ds => (match bls ds with | some bs => R.ok (.bl (bs.all id)) h | none => .no) | none => .no) = _
  rw [e]
  dsimp only
  rw [e2]
@[simp] theorem cmp_in (x y : D) (h : Hh) : cmpop .inn x y h = oB (memH h x y) (fun b => b) h := rfl
/-! == of rows of ints -/
theorem mapO_intL (h : Hh) (n : Nat) (xs : List Int) : mapO (py h (n + 1)) (intL xs) = some (xs.map PyData.int) := by
  induction xs with
  | nil => rfl
  | cons x xs ih =>
    show (match some (PyData.int x) with | some p => (match mapO (py h (n + 1)) (intL xs) with | some ps => some (p :: ps) | none => none) | none => none) = _
    rw [ih]
    rfl
theorem py_tup (h : Hh) (n : Nat) (xs : List Int) : py h (n + 2) (.tup (intL xs)) = some (.tuple (xs.map PyData.int)) := by
  show (match mapO (py h (n + 1)) (intL xs) with | some ps => some (PyData.tuple ps) | none => none) = _
  rw [mapO_intL]
theorem bls_map {α : Type} (f : α → Bool) (xs : List α) : bls (xs.map fun x => D.bl (f x)) = some (xs.map f) := by
  induction xs with
  | nil => rfl
  | cons x xs ih =>
    show (match bls (xs.map fun x => D.bl (f x)) with | some bs => some (f x :: bs) | none => none) = _
    rw [ih]
    rfl
@[simp] theorem negK_int (i : Int) (h : Hh) : negK (.int i) h = .ok (.int (-i)) h := rfl
@[simp] theorem poK_int (i : Int) (h : Hh) : poK (.int i) h = .ok (.int i) h := rfl
theorem index_at {x d : D} {k : Int} {j : Nat} {ds : List D} {h : Hh} (e : itemsOf h x = some ds) (e2 : ixN ds.length k = some j) (e3 : ds[j]? = some d) : index x (.int k) h = .ok d h := by
  show (match itemsOf h x with | some ds => (match ixN ds.length k with | some j => (match ds[j]? with | some d => R.ok d h | none => .no) | none => .no) | none => .no) = _
  rw [e]
  dsimp only
  rw [e2]
  dsimp only
  rw [e3]
theorem ixN_nat {n j : Nat} (h : j < n) : ixN n (j : Int) = some j := by
  show (match Nat.blt j n with | true => some j | false => none) = _
  rw [Nat.blt_eq.mpr h]
theorem ixN_last {n : Nat} : ixN (n + 1) (-1) = some n := by
  show (match Nat.blt 0 (n + 1) with | true => some (n + 1 - (0 + 1)) | false => none) = _
  rw [Nat.blt_eq.mpr (Nat.succ_pos n)]
  rfl
theorem index_last {x : D} {xs : List Int} {y : Int} {h : Hh} (e : itemsOf h x = some (intL (xs ++ [y]))) : index x (.int (-1)) h = .ok (.int y) h :=
  index_at e (by rw [intL_len, List.length_append]; exact ixN_last) (by rw [intL_get]; simp)
theorem index_nat {x : D} {xs : List Int} {j : Nat} {y : Int} {h : Hh} (e : itemsOf h x = some (intL xs)) (ej : xs[j]? = some y) : index x (.int (j : Int)) h = .ok (.int y) h :=
  index_at e (ixN_nat (by rw [intL_len]; exact (List.getElem?_eq_some_iff.mp ej).1)) (by rw [intL_get, ej]; rfl)
theorem popK_last {a : Nat} {xs : List Int} {y : Int} {h : Hh} (e : h[a]? = some (intL (xs ++ [y]))) : popK (.ptr a) h = .ok (.int y) (h.set a (intL xs)) := by
  have e1 : (intL (xs ++ [y])).getLast? = some (.int y) := by rw [← intL_app]; show (intL xs ++ [D.int y]).getLast? = _; simp
  have e2 : (intL (xs ++ [y])).dropLast = intL xs := by rw [← intL_app]; show (intL xs ++ [D.int y]).dropLast = _; simp
  show (match h[a]? with | some ds => (match ds.getLast? with | some d => R.ok d (h.set a ds.dropLast) | none => .no) | none => .no) = _
  rw [e]
  dsimp only
  rw [e1, e2]
theorem sqK_of {x : D} {ds : List D} {h : Hh} (e : itemsOf h x = some ds) : sqK x h = .osr (.sq x) h := by
  unfold sqK
  rw [e]
theorem enK_of {x : D} {ds : List D} {h : Hh} (e : itemsOf h x = some ds) : enK x h = .osr (.en x) h := by
  unfold enK
  rw [e]
theorem zpK_of {x y : D} {ds es : List D} {h : Hh} (e : itemsOf h x = some ds) (e2 : itemsOf h y = some es) : zpK x y h = .osr (.zp x y) h := by
  unfold zpK
  rw [e, e2]
theorem src_sq {x : D} {ds : List D} {h : Hh} (e : itemsOf h x = some ds) (i : Nat) : srcAt h (.sq x) i = some ds[i]? := by
  show (match itemsOf h x with | some ds => some ds[i]? | none => none) = _
  rw [e]
theorem src_zp {x y : D} {xs ys : List Int} {h : Hh} (e : itemsOf h x = some (intL xs)) (e2 : itemsOf h y = some (intL ys)) (hl : xs.length = ys.length) (i : Nat) (hi : i ≤ xs.length) :
    srcAt h (.zp x y) i = some (((xs.zip ys).map fun q => D.tup [.int q.1, .int q.2])[i]?) := by
  show (match itemsOf h x, itemsOf h y with
    | some ds, some es => (match ds[i]?, es[i]? with
      | some x, some y => some (some (mkT [x, y]))
      | _, _ => (match Nat.ble i ds.length && Nat.ble i es.length with
        | true => some none
        | false => none))
    | _, _ => none) = _
  rw [e, e2]
  dsimp only
  rcases Nat.lt_or_ge i xs.length with h1 | h1
  · have h2 : i < ys.length := by omega
    rw [intL_get, intL_get, List.getElem?_eq_getElem h1, List.getElem?_eq_getElem h2]
    simp only [Option.map_some]
    rw [List.getElem?_map, List.getElem?_eq_getElem (by rw [List.length_zip]; omega)]
    simp [mkT]
  · have h3 : i = xs.length := by omega
    rw [intL_get, intL_get, List.getElem?_eq_none h1, List.getElem?_eq_none (by omega)]
    simp only [Option.map_none]
    rw [List.getElem?_eq_none (by rw [List.length_map, List.length_zip]; omega), intL_len, intL_len]
    have : (Nat.ble i xs.length && Nat.ble i ys.length) = true := by rw [Bool.and_eq_true, Nat.ble_eq, Nat.ble_eq]; omega
    rw [this]
theorem src_en {x : D} {xs : List Int} {h : Hh} (e : itemsOf h x = some (intL xs)) (i : Nat) {y : Int} (hy : xs[i]? = some y) : srcAt h (.en x) i = some (some (.tup [.int (i : Int), .int y])) := by
  show (match itemsOf h x with
    | some ds => (match ds[i]? with
      | some x => some (some (mkT [.int (i : Int), x]))
      | none => (match Nat.beq i ds.length with
        | true => some none
        | false => none))
    | none => none) = _
  rw [e]
  dsimp only
  rw [intL_get, hy]
  rfl
theorem src_en_end {x : D} {xs : List Int} {h : Hh} (e : itemsOf h x = some (intL xs)) : srcAt h (.en x) xs.length = some none := by
  show (match itemsOf h x with
    | some ds => (match ds[xs.length]? with
      | some x => some (some (mkT [.int (xs.length : Int), x]))
      | none => (match Nat.beq xs.length ds.length with
        | true => some none
        | false => none))
    | none => none) = _
  rw [e]
  dsimp only
  rw [intL_get, List.getElem?_eq_none (Nat.le_refl _), intL_len]
  have : Nat.beq xs.length xs.length = true := Nat.beq_refl _
  simp only [Option.map_none]
  rw [this]
/-- a comprehension of ints over ints -/
theorem lc_ints {s : Src} {f : D → Hh → R} {h : Hh} (xs : List Int) (g : Int → Int) (hs : ∀ i, i ≤ xs.length → srcAt h s i = some (intL xs)[i]?) (hf : ∀ x ∈ xs, f (.int x) h = .ok (.int (g x)) h) (hl : xs.length < 1000000) :
    loopC s f turns 0 [] h = .oks (intL (xs.map g)) h := by
  rw [loopC_map (fun d => match d with | .int x => .int (g x) | d => d) (intL xs) (fun i hi => hs i (by simpa using hi)) (fun d hd => by
    obtain ⟨x, hx, rfl⟩ := List.mem_map.mp hd
    exact hf x hx) (by simpa using hl)]
  congr 1
  unfold intL
  rw [List.map_map, List.map_map]
  rfl
end Ev.Rx
-- EvZ
/-! EvZ: rows, tables of rows -/
namespace Ev.Rx
open PySem Ev
theorem pyEq_int (h : Hh) (i j : Int) : pyEq h (.int i) (.int j) = some (decide (i = j)) := by
  show some (PyData.eqv (.int i) (.int j)) = _
  unfold PyData.eqv
  rfl
theorem pyEq_bl (h : Hh) (i j : Bool) : pyEq h (.bl i) (.bl j) = some (decide (i = j)) := by
  show some (PyData.eqv (.bool i) (.bool j)) = _
  unfold PyData.eqv
  cases i <;> cases j <;> rfl
theorem lay_ints (xs : List Int) : PyData.canLayAll0 (xs.map PyData.int) = true := by
  induction xs with
  | nil => unfold PyData.canLayAll0; rfl
  | cons x xs ih =>
    rw [List.map_cons]
    unfold PyData.canLayAll0
    rw [ih]
    unfold PyData.canLay0
    rfl
theorem eqv_ints : ∀ (xs ys : List Int), PyData.eqvAll (xs.map PyData.int) (ys.map PyData.int) = decide (xs = ys)
  | [], [] => by unfold PyData.eqvAll; rfl
  | [], y :: ys => by rw [List.map_cons]; unfold PyData.eqvAll; rfl
  | x :: xs, [] => by rw [List.map_cons]; unfold PyData.eqvAll; rfl
  | x :: xs, y :: ys => by
    rw [List.map_cons, List.map_cons]
    unfold PyData.eqvAll
    rw [eqv_ints xs ys]
    unfold PyData.eqv
    by_cases h : x = y
    · subst h; simp
    · simp [h]
theorem eq_lay (xs : List Int) : PyData.canLay0 (.tuple (xs.map PyData.int)) = true := by
  unfold PyData.canLay0
  exact lay_ints xs
theorem eq_layL (xs : List Int) : PyData.canLay0 (.list (xs.map PyData.int)) = true := by
  unfold PyData.canLay0
  exact lay_ints xs
theorem pyEq_tup (h : Hh) (xs ys : List Int) : pyEq h (.tup (intL xs)) (.tup (intL ys)) = some (decide (xs = ys)) := by
  unfold pyEq
  rw [py_tup h 18 xs, py_tup h 18 ys]
  dsimp only
  rw [eq_lay, eq_lay, ← eqv_ints]
  unfold PyData.eqv
  rfl
theorem py_lst {h : Hh} {a : Nat} {xs : List Int} (e : h[a]? = some (intL xs)) (n : Nat) : py h (n + 2) (.ptr a) = some (.list (xs.map PyData.int)) := by
  show (match h[a]? with | some ds => (match mapO (py h (n + 1)) ds with | some ps => some (PyData.list ps) | none => none) | none => none) = _
  rw [e]
  dsimp only
  rw [mapO_intL]
theorem pyEq_lst {h : Hh} {a b : Nat} {xs ys : List Int} (e : h[a]? = some (intL xs)) (e2 : h[b]? = some (intL ys)) : pyEq h (.ptr a) (.ptr b) = some (decide (xs = ys)) := by
  unfold pyEq
  rw [py_lst e 18, py_lst e2 18]
  dsimp only
  rw [eq_layL, eq_layL, ← eqv_ints]
  unfold PyData.eqv
  rfl
theorem bi_all0 {α : Type} (f : α → Bool) (xs : List α) (h : Hh) : builtin .all [.ptr h.length] (h ++ [xs.map fun x => D.bl (f x)]) = .ok (.bl (xs.all f)) (h ++ [xs.map fun x => D.bl (f x)]) := by
  rw [bi_all (by rw [h_get0]; rfl) (bls_map f xs)]
  simp
theorem bi_tup0 (ds : List D) (h : Hh) : builtin .tuple [.ptr h.length] (h ++ [ds]) = .ok (mkT ds) (h ++ [ds]) := bi_tuple (by rw [h_get0]; rfl)
@[simp] theorem tupK_nil (h : Hh) : tupK [] h = .ok (.tup []) h := rfl
theorem tupK_i1 (a : Int) (h : Hh) : tupK [.int a] h = .ok (.tup [.int a]) h := rfl
@[simp] theorem lstK_nil (h : Hh) : lstK [] h = newL h [] := rfl
@[simp] theorem lstK_i1 (d : D) (h : Hh) : lstK [d] h = newL h [d] := rfl
theorem small_abs {n : Nat} (h : n ≤ 1000000) : ((n : Int)).natAbs < 2 ^ 62 := by
  rw [Int.natAbs_natCast]
  exact Nat.lt_of_le_of_lt h (by decide)
theorem rep1T {n : Nat} (x : Int) (hn : n ≤ 1000000) (h : Hh) : binop .mul (.tup [.int x]) (.int (n : Int)) h = .ok (.tup (intL (List.replicate n x))) h := by
  rw [bin_repT (by simp; omega) (small_abs hn), Int.toNat_natCast, intL_rep]
theorem rep1L {a n : Nat} (x : Int) {h : Hh} (e : h[a]? = some [.int x]) (hn : n ≤ 1000000) : binop .mul (.ptr a) (.int (n : Int)) h = newL h (intL (List.replicate n x)) := by
  rw [bin_repL e (by simp; omega) (small_abs hn), Int.toNat_natCast, intL_rep]
/-- zip of two rows -/
theorem lc_zip {x y : D} {h : Hh} {f : D → Hh → R} (xs ys : List Int) (g : Int → Int → Int) (ex : itemsOf h x = some (intL xs)) (ey : itemsOf h y = some (intL ys)) (hl : xs.length = ys.length) (hs : xs.length < 1000000)
    (hf : ∀ a b, a ∈ xs → b ∈ ys → f (.tup [.int a, .int b]) h = .ok (.int (g a b)) h) : loopC (.zp x y) f turns 0 [] h = .oks (intL ((xs.zip ys).map fun q => g q.1 q.2)) h := by
  have := loopC_map (s := .zp x y) (f := f) (h := h) (fun d => match d with | .tup [.int a, .int b] => .int (g a b) | _ => .non) ((xs.zip ys).map fun q => D.tup [.int q.1, .int q.2])
    (fun i hi => src_zp ex ey hl i (by simp at hi; omega)) (fun d hd => by
      obtain ⟨q, hq, rfl⟩ := List.mem_map.mp hd
      have := List.of_mem_zip hq
      exact hf q.1 q.2 this.1 this.2) (by simp; omega)
  rw [this]
  congr 1
  unfold intL
  rw [List.map_map, List.map_map]
  rfl
theorem lst_get {x : D} {xs : List Int} {h : Hh} {a : Nat} (hx : x = .tup (intL xs) ∨ (x = .ptr a ∧ h[a]? = some (intL xs))) : itemsOf h x = some (intL xs) := by
  rcases hx with rfl | ⟨rfl, e⟩
  · rfl
  · exact e
theorem slice_toL {a k : Nat} {ds : List D} {h : Hh} (e : h[a]? = some ds) (hk : k ≤ ds.length) : slice (.ptr a) .non (.int (k : Int)) h = newL h (ds.take k) := by
  show (match h[a]? with | some ds => newL h (cut ds none (some (k : Int))) | none => .no) = _
  rw [e]
  show newL h ((ds.drop 0).take (min k ds.length - 0)) = _
  rw [Nat.min_eq_left hk]
  rfl
theorem slice_toT {k : Nat} {ds : List D} {h : Hh} (hk : k ≤ ds.length) : slice (.tup ds) .non (.int (k : Int)) h = .ok (.tup (ds.take k)) h := by
  show R.ok (.tup ((ds.drop 0).take (min k ds.length - 0))) h = _
  rw [Nat.min_eq_left hk]
  rfl
theorem intL_take (xs : List Int) (k : Nat) : (intL xs).take k = intL (xs.take k) := (List.map_take ..).symm
theorem bi_lenL {a : Nat} {xs : List Int} {h : Hh} (e : h[a]? = some (intL xs)) : builtin .len [.ptr a] h = .ok (.int xs.length) h := by
  rw [bi_len (x := .ptr a) e, intL_len]
def tr (r : List Int) : D := .tup (intL r)
def tbs (S : List (List Int)) : List D := S.map tr
def tb (S : List (List Int)) : D := .tup (tbs S)
@[simp] theorem una_tr (r : List Int) : isUna (tr r) = false := Eq.trans rfl rfl
@[simp] theorem una_tb (r : List (List Int)) : isUna (tb r) = false := Eq.trans rfl rfl
@[simp] theorem ptr_tr (r : List Int) : isPtr (tr r) = false := Eq.trans rfl rfl
@[simp] theorem items_tr (h : Hh) (r : List Int) : itemsOf h (tr r) = some (intL r) := rfl
@[simp] theorem items_tb (h : Hh) (S : List (List Int)) : itemsOf h (tb S) = some (tbs S) := rfl
@[simp] theorem back_tr (n : Nat) (r : List Int) (h : Hh) : back n (tr r) h = .ok (tr r) (h.take n) := rfl
@[simp] theorem back_tb (n : Nat) (S : List (List Int)) (h : Hh) : back n (tb S) h = .ok (tb S) (h.take n) := rfl
@[simp] theorem tbs_len (S : List (List Int)) : (tbs S).length = S.length := List.length_map ..
theorem tbs_any (S : List (List Int)) : (tbs S).any isPtr = false := by
  induction S with
  | nil => rfl
  | cons x xs ih => exact ih
@[simp] theorem mkT_tbs (S : List (List Int)) : mkT (tbs S) = tb S := by
  unfold mkT
  rw [tbs_any]
  rfl
theorem tbs_get (S : List (List Int)) (i : Nat) : (tbs S)[i]? = S[i]?.map tr := List.getElem?_map ..
theorem tbs_app (S T : List (List Int)) : tbs S ++ tbs T = tbs (S ++ T) := (List.map_append ..).symm
theorem tr_mk (r : List Int) : D.tup (intL r) = tr r := rfl
theorem tb_mk (r : List (List Int)) : D.tup (tbs r) = tb r := rfl
/-! == of tables -/
theorem py_tr (h : Hh) (n : Nat) (r : List Int) : py h (n + 2) (tr r) = some (.tuple (r.map PyData.int)) := py_tup h n r
def pyR (r : List Int) : PyData := .tuple (r.map PyData.int)
theorem mapO_tbs (h : Hh) (n : Nat) (S : List (List Int)) : mapO (py h (n + 2)) (tbs S) = some (S.map pyR) := by
  induction S with
  | nil => rfl
  | cons x xs ih =>
    show (match py h (n + 2) (tr x) with | some p => (match mapO (py h (n + 2)) (tbs xs) with | some ps => some (p :: ps) | none => none) | none => none) = _
    rw [ih, py_tr]
    rfl
theorem py_tb (h : Hh) (n : Nat) (S : List (List Int)) : py h (n + 3) (tb S) = some (.tuple (S.map pyR)) := by
  show (match mapO (py h (n + 2)) (tbs S) with | some ps => some (PyData.tuple ps) | none => none) = _
  rw [mapO_tbs]
theorem lay_rows (S : List (List Int)) : PyData.canLayAll0 (S.map pyR) = true := by
  induction S with
  | nil => unfold PyData.canLayAll0; rfl
  | cons x xs ih =>
    rw [List.map_cons]
    unfold PyData.canLayAll0
    rw [ih]
    unfold pyR PyData.canLay0
    rw [lay_ints]
    rfl
theorem eqv_rows : ∀ (S T : List (List Int)), PyData.eqvAll (S.map pyR) (T.map pyR) = decide (S = T)
  | [], [] => by unfold PyData.eqvAll; rfl
  | [], y :: ys => by rw [List.map_cons]; unfold PyData.eqvAll; rfl
  | x :: xs, [] => by rw [List.map_cons]; unfold PyData.eqvAll; rfl
  | x :: xs, y :: ys => by
    rw [List.map_cons, List.map_cons]
    unfold PyData.eqvAll
    rw [eqv_rows xs ys]
    unfold pyR PyData.eqv
    rw [eqv_ints]
    by_cases h : x = y
    · subst h; simp
    · simp [h]
theorem pyEq_tr (h : Hh) (r s : List Int) : pyEq h (tr r) (tr s) = some (decide (r = s)) := pyEq_tup h r s
theorem pyEq_tb (h : Hh) (S T : List (List Int)) : pyEq h (tb S) (tb T) = some (decide (S = T)) := by
  unfold pyEq
  rw [py_tb h 17 S, py_tb h 17 T]
  dsimp only
  have e : ∀ S : List (List Int), PyData.canLay0 (.tuple (S.map pyR)) = true := fun S => by
    unfold PyData.canLay0
    exact lay_rows S
  rw [e, e, ← eqv_rows]
  unfold PyData.eqv
  rfl
theorem py_lrows {h : Hh} {a : Nat} {S : List (List Int)} (e : h[a]? = some (tbs S)) (n : Nat) : py h (n + 3) (.ptr a) = some (.list (S.map pyR)) := by
  show (match h[a]? with | some ds => (match mapO (py h (n + 2)) ds with | some ps => some (PyData.list ps) | none => none) | none => none) = _
  rw [e]
  dsimp only
  rw [mapO_tbs]
theorem pyEq_lrows {h : Hh} {a b : Nat} {S T : List (List Int)} (e : h[a]? = some (tbs S)) (e2 : h[b]? = some (tbs T)) : pyEq h (.ptr a) (.ptr b) = some (decide (S = T)) := by
  unfold pyEq
  rw [py_lrows e 17, py_lrows e2 17]
  dsimp only
  have l : ∀ S : List (List Int), PyData.canLay0 (.list (S.map pyR)) = true := fun S => by
    unfold PyData.canLay0
    exact lay_rows S
  rw [l, l, ← eqv_rows]
  unfold PyData.eqv
  rfl
/-! sources -/
theorem src_zpG {x y : D} {ds es : List D} {h : Hh} (e : itemsOf h x = some ds) (e2 : itemsOf h y = some es) (i : Nat) (hi : i ≤ ds.length ∧ i ≤ es.length) :
    srcAt h (.zp x y) i = some (((ds.zip es).map fun q => mkT [q.1, q.2])[i]?) := by
  show (match itemsOf h x, itemsOf h y with
    | some ds, some es => (match ds[i]?, es[i]? with
      | some x, some y => some (some (mkT [x, y]))
      | _, _ => (match Nat.ble i ds.length && Nat.ble i es.length with
        | true => some none
        | false => none))
    | _, _ => none) = _
  rw [e, e2]
  dsimp only
  have hb : (Nat.ble i ds.length && Nat.ble i es.length) = true := by rw [Bool.and_eq_true, Nat.ble_eq, Nat.ble_eq]; exact hi
  rw [List.getElem?_map]
  cases c1 : ds[i]? with
  | none =>
    have : (ds.zip es)[i]? = none := List.getElem?_eq_none (by rw [List.length_zip]; have := List.getElem?_eq_none_iff.mp c1; omega)
    rw [this, hb]
    rfl
  | some u =>
    cases c2 : es[i]? with
    | none =>
      have : (ds.zip es)[i]? = none := List.getElem?_eq_none (by rw [List.length_zip]; have := List.getElem?_eq_none_iff.mp c2; omega)
      rw [this, hb]
      rfl
    | some v =>
      have : (ds.zip es)[i]? = some (u, v) := List.getElem?_zip_eq_some.mpr ⟨c1, c2⟩
      rw [this]
      rfl
theorem src_enG {x : D} {ds : List D} {h : Hh} (e : itemsOf h x = some ds) (i : Nat) (hi : i ≤ ds.length) : srcAt h (.en x) i = some ((ds.zipIdx.map fun q => mkT [.int (q.2 : Int), q.1])[i]?) := by
  show (match itemsOf h x with
    | some ds => (match ds[i]? with
      | some x => some (some (mkT [.int (i : Int), x]))
      | none => (match Nat.beq i ds.length with
        | true => some none
        | false => none))
    | none => none) = _
  rw [e]
  dsimp only
  rw [List.getElem?_map, List.getElem?_zipIdx]
  rcases Nat.lt_or_ge i ds.length with c | c
  · rw [List.getElem?_eq_getElem c]
    simp
  · have : i = ds.length := by omega
    subst this
    rw [List.getElem?_eq_none (Nat.le_refl _), show Nat.beq ds.length ds.length = true from Nat.beq_refl _]
    rfl
theorem appK_of {a : Nat} {ds : List D} {y : D} {h : Hh} (e : h[a]? = some ds) (hl : ds.length ≤ 1000000) (np : isPtr y = false) : appK (.ptr a) y h = .ok .non (h.set a (ds ++ [y])) := by
  show (match h[a]? with
    | some ds => (match Nat.blt ds.length line && !isPtr y with
      | true => R.ok .non (h.set a (ds ++ [y]))
      | false => .no)
    | none => .no) = _
  rw [e]
  dsimp only
  rw [np, show Nat.blt ds.length line = true from Nat.blt_eq.mpr (by unfold line; omega)]
  rfl
end Ev.Rx
-- Li
set_option maxHeartbeats 400000
/-! rows modulo a prime -/
namespace Li
abbrev Row := List Int
def at_ (r : Row) (i : Nat) : Int := r.getD i 0
def ad (p : Int) (a b : Row) (f : Int) : Row := List.zipWith (fun x y => (x + f * y) % p) a b
def zr (w : Nat) : Row := List.replicate w 0
/-- place of the first entry that is not 0, or the length -/
def ld : Row → Nat
  | [] => 0
  | x :: r => match decide (x = 0) with
    | true => ld r + 1
    | false => 0
structure Rw (p : Int) (w : Nat) (r : Row) : Prop where
  len : r.length = w
  res : ∀ x ∈ r, 0 ≤ x ∧ x < p
section
variable {p : Int} {w : Nat}
theorem at_zr (w i : Nat) : at_ (zr w) i = 0 := by
  unfold at_ zr
  rw [List.getD_eq_getElem?_getD, List.getElem?_replicate]
  split <;> rfl
theorem at_out {r : Row} {i : Nat} (h : r.length ≤ i) : at_ r i = 0 := by
  unfold at_
  rw [List.getD_eq_getElem?_getD, List.getElem?_eq_none h]
  rfl
theorem at_ad {a b : Row} (h : a.length = b.length) (f : Int) (i : Nat) : at_ (ad p a b f) i = (at_ a i + f * at_ b i) % p := by
  unfold at_ ad
  simp only [List.getD_eq_getElem?_getD, List.getElem?_zipWith]
  by_cases hi : i < a.length
  · rw [List.getElem?_eq_getElem hi, List.getElem?_eq_getElem (h ▸ hi)]
    rfl
  · rw [List.getElem?_eq_none (by omega), List.getElem?_eq_none (by omega)]
    simp
theorem ext {a b : Row} (h : a.length = b.length) (e : ∀ i, at_ a i = at_ b i) : a = b := by
  apply List.ext_getElem h
  intro i h1 h2
  have := e i
  unfold at_ at this
  rw [List.getD_eq_getElem?_getD, List.getD_eq_getElem?_getD, List.getElem?_eq_getElem h1, List.getElem?_eq_getElem h2] at this
  exact this
theorem ad_len {a b : Row} (h : a.length = b.length) (f : Int) : (ad p a b f).length = a.length := by
  unfold ad
  rw [List.length_zipWith]
  omega
theorem Rw.ad (hp : 0 < p) {a b : Row} (ha : Rw p w a) (hb : b.length = w) (f : Int) : Rw p w (Li.ad p a b f) := by
  refine ⟨by rw [ad_len (ha.len.trans hb.symm)]; exact ha.len, fun x hx => ?_⟩
  unfold Li.ad at hx
  obtain ⟨i, hi, rfl⟩ := List.getElem_of_mem hx
  rw [List.getElem_zipWith]
  exact ⟨Int.emod_nonneg _ (by omega), Int.emod_lt_of_pos _ hp⟩
theorem Rw.zr (hp : 0 < p) (w : Nat) : Rw p w (Li.zr w) := ⟨List.length_replicate, fun x hx => by
  obtain rfl := List.eq_of_mem_replicate hx
  omega⟩
theorem Rw.at (hp : 0 < p) {a : Row} (ha : Rw p w a) (i : Nat) : 0 ≤ at_ a i ∧ at_ a i < p := by
  by_cases hi : i < a.length
  · unfold at_
    rw [List.getD_eq_getElem?_getD, List.getElem?_eq_getElem hi]
    exact ha.res _ (List.getElem_mem hi)
  · rw [at_out (by omega)]
    omega
theorem Rw.mod (hp : 0 < p) {a : Row} (ha : Rw p w a) (i : Nat) : at_ a i % p = at_ a i :=
  Int.emod_eq_of_lt (ha.at hp i).1 (ha.at hp i).2
/-! arithmetic -/
theorem m1 (x y f : Int) : (x % p + f * y) % p = (x + f * y) % p := by
  rw [Int.emod_add_emod]
theorem m2 (x y f : Int) : (x + f * (y % p)) % p = (x + f * y) % p := by
  rw [Int.add_emod, Int.mul_emod, Int.emod_emod, ← Int.mul_emod, ← Int.add_emod]
theorem m3 (x y f : Int) : (x + (f % p) * y) % p = (x + f * y) % p := by
  rw [Int.mul_comm, m2, Int.mul_comm]
theorem m4 (x f y : Int) : (x + -(f % p) * y) % p = (x + -f * y) % p := by
  have e1 : x + -(f % p) * y = x + (-y) * (f % p) := by grind
  have e2 : x + -f * y = x + (-y) * f := by grind
  rw [e1, e2, m2]
theorem ad_zero (hp : 0 < p) {a : Row} (ha : Rw p w a) (b : Row) (hb : b.length = w) : ad p a b 0 = a := by
  refine ext (ad_len (ha.len.trans hb.symm) 0) fun i => ?_
  rw [at_ad (ha.len.trans hb.symm), Int.zero_mul, Int.add_zero, ha.mod hp]
theorem ad_zr (hp : 0 < p) {a : Row} (ha : Rw p w a) (f : Int) : ad p a (zr w) f = a := by
  have hl : a.length = (zr w).length := by rw [ha.len]; exact List.length_replicate.symm
  refine ext (ad_len hl f) fun i => ?_
  rw [at_ad hl, at_zr, Int.mul_zero, Int.add_zero, ha.mod hp]
theorem zr_ad {a : Row} (hp : 0 < p) (ha : Rw p w a) : ad p (zr w) a 1 = a := by
  have hl : (zr w).length = a.length := by rw [ha.len]; exact List.length_replicate
  refine ext ((ad_len hl 1).trans hl) fun i => ?_
  rw [at_ad hl, at_zr, Int.one_mul, Int.zero_add, ha.mod hp]
theorem ad_self {a : Row} : ad p a a (-1) = zr a.length := by
  refine ext ((ad_len rfl _).trans List.length_replicate.symm) fun i => ?_
  rw [at_ad rfl, at_zr]
  have : at_ a i + -1 * at_ a i = 0 := by omega
  rw [this]; simp
theorem ad_mod {a b : Row} (h : a.length = b.length) (f : Int) : ad p a b (f % p) = ad p a b f := by
  refine ext ((ad_len h _).trans (ad_len h _).symm) fun i => ?_
  rw [at_ad h, at_ad h, m3]
/-- sums over sums -/
theorem ad_ad {u v r : Row} (h1 : u.length = w) (h2 : v.length = w) (h3 : r.length = w) (f g : Int) : ad p u (ad p v r g) f = ad p (ad p u v f) r (f * g) := by
  have l1 : v.length = r.length := by omega
  have l2 : u.length = v.length := by omega
  have a1 := ad_len (p := p) l1 g
  have a2 := ad_len (p := p) l2 f
  refine ext (by rw [ad_len, ad_len] <;> omega) fun i => ?_
  rw [at_ad (by omega), at_ad l1, at_ad (by omega), at_ad l2, m1, m2]
  congr 1
  grind
theorem ad_comm {u r s : Row} (h1 : u.length = w) (h2 : r.length = w) (h3 : s.length = w) (f g : Int) : ad p (ad p u r f) s g = ad p (ad p u s g) r f := by
  have l1 : u.length = r.length := by omega
  have l2 : u.length = s.length := by omega
  have a1 := ad_len (p := p) l1 f
  have a2 := ad_len (p := p) l2 g
  have a3 := ad_len (p := p) (a := ad p u r f) (b := s) (by omega) g
  have a4 := ad_len (p := p) (a := ad p u s g) (b := r) (by omega) f
  refine ext (by omega) fun i => ?_
  rw [at_ad (by omega), at_ad l1, at_ad (by omega), at_ad l2, m1, m1]
  congr 1
  grind
theorem ad_twice {u r : Row} (h1 : u.length = r.length) (f g : Int) : ad p (ad p u r f) r g = ad p u r (f + g) := by
  have a1 := ad_len (p := p) h1 f
  have a3 := ad_len (p := p) (a := ad p u r f) (b := r) (by omega) g
  have a4 := ad_len (p := p) h1 (f + g)
  refine ext (by omega) fun i => ?_
  rw [at_ad (by omega), at_ad h1, at_ad h1, m1]
  congr 1
  grind
/-! what rows span -/
inductive Sp (p : Int) (w : Nat) (S : List Row) : Row → Prop
  | zero : Sp p w S (zr w)
  | add {v r : Row} (f : Int) : Sp p w S v → r ∈ S → Sp p w S (ad p v r f)
def Rws (p : Int) (w : Nat) (S : List Row) : Prop := ∀ r ∈ S, Rw p w r
theorem Sp.rw (hp : 0 < p) {S : List Row} (hS : Rws p w S) {v : Row} (h : Sp p w S v) : Rw p w v := by
  induction h with
  | zero => exact Rw.zr hp w
  | add f _ hr ih => exact ih.ad hp (hS _ hr).len f
theorem Sp.mem (hp : 0 < p) {S : List Row} (hS : Rws p w S) {r : Row} (hr : r ∈ S) : Sp p w S r := by
  have := Sp.add (p := p) (w := w) 1 .zero hr
  rw [zr_ad hp (hS r hr)] at this
  exact this
theorem Sp.ad (hp : 0 < p) {S : List Row} (hS : Rws p w S) {u v : Row} (hu : Sp p w S u) (hv : Sp p w S v) (f : Int) : Sp p w S (Li.ad p u v f) := by
  have ru := hu.rw hp hS
  induction hv with
  | zero => rw [ad_zr hp ru]; exact hu
  | @add v r g hv hr ih =>
    rw [ad_ad ru.len (hv.rw hp hS).len (hS r hr).len]
    exact .add _ ih hr
theorem Sp.sub (hp : 0 < p) {S T : List Row} (hT : Rws p w T) (h : ∀ r ∈ S, Sp p w T r) {v : Row} (hv : Sp p w S v) : Sp p w T v := by
  induction hv with
  | zero => exact .zero
  | add f _ hr ih => exact ih.ad hp hT (h _ hr) f
theorem Sp.coord (hp : 0 < p) {S : List Row} (hS : Rws p w S) {i : Nat} (h : ∀ r ∈ S, at_ r i = 0) {v : Row} (hv : Sp p w S v) : at_ v i = 0 := by
  induction hv with
  | zero => exact at_zr w i
  | @add v r f hv hr ih =>
    rw [at_ad ((hv.rw hp hS).len.trans (hS _ hr).len.symm), ih, h r hr]
    simp
theorem Sp.mono {S T : List Row} (h : ∀ r ∈ S, r ∈ T) {v : Row} (hv : Sp p w S v) : Sp p w T v := by
  induction hv with
  | zero => exact .zero
  | add f _ hr ih => exact .add f ih (h _ hr)
/-! leads -/
theorem ld_before : ∀ {r : Row} {j : Nat}, j < ld r → at_ r j = 0
  | [], j, h => by cases h
  | x :: r, j, h => by
    unfold ld at h
    cases c : decide (x = 0) with
    | true =>
      rw [c] at h
      have := of_decide_eq_true c
      subst this
      cases j with
      | zero => rfl
      | succ j => exact ld_before (r := r) (j := j) (by simpa using h)
    | false => rw [c] at h; cases h
theorem ld_at : ∀ {r : Row}, ld r < r.length → at_ r (ld r) ≠ 0
  | [], h => by cases h
  | x :: r, h => by
    unfold ld at h ⊢
    cases c : decide (x = 0) with
    | true =>
      rw [c] at h
      exact ld_at (r := r) (by simpa using h)
    | false => exact of_decide_eq_false c
theorem ld_le : ∀ (r : Row), ld r ≤ r.length
  | [] => Nat.le_refl _
  | x :: r => by
    unfold ld
    cases decide (x = 0) with
    | true => exact Nat.succ_le_succ (ld_le r)
    | false => exact Nat.zero_le _
theorem ld_is {r : Row} {l : Nat} (h : at_ r l ≠ 0) (hb : ∀ j, j < l → at_ r j = 0) : ld r = l := by
  rcases Nat.lt_trichotomy (ld r) l with c | c | c
  · have hl : l < r.length := by
      rcases Nat.lt_or_ge l r.length with z | z
      · exact z
      · exact absurd (at_out z) h
    exact absurd (hb _ c) (ld_at (by omega))
  · exact c
  · exact absurd (ld_before c) h
theorem ld_zero {r : Row} (h : ld r = r.length) : r = zr r.length := ext List.length_replicate.symm fun i => by
  rw [at_zr]
  by_cases c : i < r.length
  · exact ld_before (by omega)
  · exact at_out (by omega)
theorem ld_zr (w : Nat) : ld (zr w) = w := by
  induction w with
  | zero => rfl
  | succ n ih => unfold zr at *; rw [List.replicate_succ]; unfold ld; exact congrArg (· + 1) ih
/-! reduced bases -/
structure Red (p : Int) (w : Nat) (B : List Row) : Prop where
  rw : Rws p w B
  one : ∀ r ∈ B, at_ r (ld r) = 1
  srt : B.Pairwise fun r s => ld r < ld s ∧ at_ r (ld s) = 0
def step (p : Int) (v r : Row) : Row := ad p v r (-(at_ v (ld r)))
def rest (p : Int) (B : List Row) (v : Row) : Row := B.foldl (step p) v
theorem step_len {v r : Row} (h : v.length = r.length) : (step p v r).length = v.length := ad_len h _
theorem step_rw (hp : 0 < p) {v r : Row} (hv : Rw p w v) (hr : Rw p w r) : Rw p w (step p v r) := hv.ad hp hr.len _
theorem rest_rw (hp : 0 < p) : ∀ {B : List Row}, Rws p w B → ∀ {v : Row}, Rw p w v → Rw p w (rest p B v)
  | [], _, _, hv => hv
  | r :: B, hB, v, hv => rest_rw hp (B := B) (fun s hs => hB s (List.mem_cons_of_mem _ hs)) (step_rw hp hv (hB r (List.mem_cons_self ..)))
theorem step_triv (hp : 0 < p) {v r : Row} (hv : Rw p w v) (hr : Rw p w r) (h : at_ v (ld r) = 0) : step p v r = v := by
  unfold step
  rw [h]
  exact ad_zero hp hv r hr.len
theorem rest_triv (hp : 0 < p) : ∀ {B : List Row}, Rws p w B → ∀ {v : Row}, Rw p w v → (∀ r ∈ B, at_ v (ld r) = 0) → rest p B v = v
  | [], _, _, _, _ => rfl
  | r :: B, hB, v, hv, h => by
    show rest p B (step p v r) = v
    rw [step_triv hp hv (hB r (List.mem_cons_self ..)) (h r (List.mem_cons_self ..))]
    exact rest_triv hp (fun s hs => hB s (List.mem_cons_of_mem _ hs)) hv fun s hs => h s (List.mem_cons_of_mem _ hs)
/-- the rest differs by what is spanned -/
theorem rest_sp (hp : 0 < p) : ∀ {B : List Row} (T : List Row), Rws p w T → (∀ r ∈ B, r ∈ T) → ∀ {v : Row}, Rw p w v → Sp p w T (ad p v (rest p B v) (-1)) ∧ Sp p w T (ad p (rest p B v) v (-1))
  | [], T, hT, hB, v, hv => by
    show Sp p w T (ad p v v (-1)) ∧ Sp p w T (ad p v v (-1))
    rw [ad_self, hv.len]
    exact ⟨.zero, .zero⟩
  | r :: B, T, hT, hB, v, hv => by
    have hr := hB r (List.mem_cons_self ..)
    have rr := hT r hr
    have hs := step_rw hp hv rr
    obtain ⟨h1, h2⟩ := rest_sp hp T hT (B := B) (fun s hs => hB s (List.mem_cons_of_mem _ hs)) hs
    show Sp p w T (ad p v (rest p B (step p v r)) (-1)) ∧ Sp p w T (ad p (rest p B (step p v r)) v (-1))
    have hz := rest_rw hp (B := B) (fun s hs => hT s (hB s (List.mem_cons_of_mem _ hs))) hs
    have l1 : v.length = r.length := hv.len.trans rr.len.symm
    have l2 := step_len (p := p) l1
    have l3 : (rest p B (step p v r)).length = v.length := hz.len.trans hv.len.symm
    constructor
    · have e : ad p v (rest p B (step p v r)) (-1) = ad p (ad p (step p v r) (rest p B (step p v r)) (-1)) r (at_ v (ld r)) := by
        have z := ad_len (p := p) (l2.trans l3.symm) (-1)
        have z2 := ad_len (p := p) l3.symm (-1)
        refine ext (by rw [z2, ad_len] <;> omega) fun i => ?_
        rw [at_ad (by omega), at_ad (by omega), at_ad (by omega), m1]
        unfold step
        rw [at_ad (by omega)]
        have : ∀ (x y z c : Int), ((x + -c * y) % p + -1 * z + c * y) % p = (x + -1 * z) % p := fun x y z c => by
          rw [Int.add_assoc, Int.emod_add_emod]
          congr 1
          grind
        exact (this _ _ _ _).symm
      rw [e]
      exact .add _ h1 hr
    · have e : ad p (rest p B (step p v r)) v (-1) = ad p (ad p (rest p B (step p v r)) (step p v r) (-1)) r (-(at_ v (ld r))) := by
        have z := ad_len (p := p) (l3.trans l2.symm) (-1)
        have z2 := ad_len (p := p) l3 (-1)
        refine ext (by rw [z2, ad_len] <;> omega) fun i => ?_
        rw [at_ad (by omega), at_ad (by omega), at_ad (by omega), m1]
        unfold step
        rw [at_ad (by omega)]
        have : ∀ (x y z c : Int), (z + -1 * ((x + -c * y) % p) + -c * y) % p = (z + -1 * x) % p := fun x y z c => by
          have e : z + -1 * ((x + -c * y) % p) + -c * y = (z + -c * y) + -1 * ((x + -c * y) % p) := by grind
          rw [e, m2]
          congr 1
          grind
        exact (this _ _ _ _).symm
      rw [e]
      exact .add _ h2 hr
theorem step_lin (hp : 0 < p) {u v r : Row} (hu : u.length = w) (hv : v.length = w) (hr : r.length = w) (f : Int) : step p (ad p u v f) r = ad p (step p u r) (step p v r) f := by
  have l1 : u.length = v.length := by omega
  have a1 := ad_len (p := p) l1 f
  have b1 := step_len (p := p) (v := u) (r := r) (by omega)
  have b2 := step_len (p := p) (v := v) (r := r) (by omega)
  refine ext (by rw [step_len, ad_len, ad_len] <;> omega) fun i => ?_
  unfold step at b1 b2 ⊢
  rw [at_ad (by omega), at_ad (by omega), at_ad (by omega), at_ad (by omega), at_ad (by omega), at_ad (by omega), m1, m1, m2, m4]
  congr 1
  grind
theorem rest_lin (hp : 0 < p) : ∀ {B : List Row}, Rws p w B → ∀ {u v : Row} (f : Int), u.length = w → v.length = w → rest p B (ad p u v f) = ad p (rest p B u) (rest p B v) f
  | [], _, _, _, _, _, _ => rfl
  | r :: B, hB, u, v, f, hu, hv => by
    have hr := (hB r (List.mem_cons_self ..)).len
    show rest p B (step p (ad p u v f) r) = ad p (rest p B (step p u r)) (rest p B (step p v r)) f
    rw [step_lin hp hu hv hr]
    exact rest_lin hp (fun s hs => hB s (List.mem_cons_of_mem _ hs)) f (by rw [step_len] <;> omega) (by rw [step_len] <;> omega)
theorem rest_zr (hp : 0 < p) {B : List Row} (hB : Rws p w B) : rest p B (zr w) = zr w := rest_triv hp hB (Rw.zr hp w) fun r _ => at_zr w _
theorem Red.tail {r : Row} {B : List Row} (h : Red p w (r :: B)) : Red p w B := ⟨fun s hs => h.rw s (List.mem_cons_of_mem _ hs), fun s hs => h.one s (List.mem_cons_of_mem _ hs), (List.pairwise_cons.mp h.srt).2⟩
theorem Red.before {B : List Row} {r s : Row} (hlt : ld r < ld s) : at_ s (ld r) = 0 := ld_before hlt
/-- a line of the base leaves no rest -/
theorem rest_line (hp : 0 < p) : ∀ {B : List Row}, Red p w B → ∀ {r : Row}, r ∈ B → rest p B r = zr w
  | s :: B, h, r, hr => by
    have hs := h.rw s (List.mem_cons_self ..)
    have rr := h.rw r hr
    obtain ⟨q1, q2⟩ := List.pairwise_cons.mp h.srt
    show rest p B (step p r s) = zr w
    rcases List.mem_cons.mp hr with e | e
    · subst e
      have : step p r r = zr w := by
        unfold step
        rw [h.one r (List.mem_cons_self ..)]
        rw [ad_self, hs.len]
      rw [this]
      exact rest_zr hp h.tail.rw
    · rw [step_triv hp rr hs (ld_before (q1 r e).1)]
      exact rest_line hp h.tail e
theorem rest_in (hp : 0 < p) {B : List Row} (h : Red p w B) {v : Row} (hv : Sp p w B v) : rest p B v = zr w := by
  induction hv with
  | zero => exact rest_zr hp h.rw
  | @add v r f hv hr ih =>
    rw [rest_lin hp h.rw f (hv.rw hp h.rw).len (h.rw r hr).len, ih, rest_line hp h hr]
    exact ad_zr hp (Rw.zr hp w) f
theorem sp_of_rest (hp : 0 < p) {B : List Row} (hB : Rws p w B) {v : Row} (hv : Rw p w v) (e : rest p B v = zr w) : Sp p w B v := by
  have z := (rest_sp hp B hB (fun _ h => h) hv).1
  rw [e, ad_zr hp hv] at z
  exact z
theorem in_iff (hp : 0 < p) {B : List Row} (h : Red p w B) {v : Row} (hv : Rw p w v) : Sp p w B v ↔ rest p B v = zr w :=
  ⟨rest_in hp h, sp_of_rest hp h.rw hv⟩
/-- the rest is 0 at each lead -/
theorem rest_at (hp : 0 < p) : ∀ {B : List Row}, Red p w B → ∀ {v : Row}, Rw p w v → ∀ r ∈ B, at_ (rest p B v) (ld r) = 0
  | s :: B, h, v, hv, r, hr => by
    have hs := h.rw s (List.mem_cons_self ..)
    obtain ⟨q1, q2⟩ := List.pairwise_cons.mp h.srt
    have hst := step_rw hp hv hs
    show at_ (rest p B (step p v s)) (ld r) = 0
    rcases List.mem_cons.mp hr with e | e
    · subst e
      have keep : ∀ {C : List Row}, Rws p w C → (∀ t ∈ C, at_ t (ld r) = 0) → ∀ {u : Row}, Rw p w u → at_ u (ld r) = 0 → at_ (rest p C u) (ld r) = 0 := by
        intro C
        induction C with
        | nil => intro _ _ u _ h0; exact h0
        | cons t C ih =>
          intro hC hz u hu h0
          have ht := hC t (List.mem_cons_self ..)
          refine ih (fun s hs => hC s (List.mem_cons_of_mem _ hs)) (fun s hs => hz s (List.mem_cons_of_mem _ hs)) (step_rw hp hu ht) ?_
          unfold step
          rw [at_ad (hu.len.trans ht.len.symm), h0, hz t (List.mem_cons_self ..)]
          simp
      refine keep h.tail.rw (fun t ht => ld_before (q1 t ht).1) hst ?_
      unfold step
      rw [at_ad (hv.len.trans hs.len.symm), h.one r (List.mem_cons_self ..)]
      have : at_ v (ld r) + -at_ v (ld r) * 1 = 0 := by omega
      rw [this]
      simp
    · exact rest_at hp h.tail hst r e
/-- what is spanned and 0 at each lead is 0 -/
theorem sp_zero (hp : 0 < p) {B : List Row} (h : Red p w B) {v : Row} (hv : Sp p w B v) (z : ∀ r ∈ B, at_ v (ld r) = 0) : v = zr w :=
  (rest_triv hp h.rw (hv.rw hp h.rw) z).symm.trans (rest_in hp h hv)
theorem rws_tail {s : Row} {B : List Row} (h : Rws p w (s :: B)) : Rws p w B := fun r hr => h r (List.mem_cons_of_mem _ hr)
/-- a lead of what is spanned is a lead of the base -/
theorem sp_lead (hp : 0 < p) : ∀ {B : List Row}, Red p w B → ∀ {v : Row}, Rw p w v → v ≠ zr w → rest p B v = zr w → ∃ r ∈ B, ld r = ld v
  | [], h, v, hv, nz, e => absurd e nz
  | s :: B, h, v, hv, nz, e => by
    have hs := h.rw s (List.mem_cons_self ..)
    obtain ⟨q1, q2⟩ := List.pairwise_cons.mp h.srt
    by_cases c : at_ v (ld s) = 0
    · have e2 : rest p B (step p v s) = zr w := e
      rw [step_triv hp hv hs c] at e2
      obtain ⟨r, hr, er⟩ := sp_lead hp h.tail hv nz e2
      exact ⟨r, List.mem_cons_of_mem _ hr, er⟩
    · refine ⟨s, List.mem_cons_self .., (ld_is c fun j hj => ?_).symm⟩
      refine Sp.coord hp h.rw (fun r hr => ?_) (sp_of_rest hp h.rw hv e)
      rcases List.mem_cons.mp hr with z | z
      · rw [z]; exact ld_before hj
      · exact ld_before (Nat.lt_trans hj (q1 r z).1)
end
end Li
-- Li2
/-! reduced bases are the only ones; a row more -/
namespace Li
section
variable {p : Int} {w : Nat}
theorem Red.off {B : List Row} (h : Red p w B) {r s : Row} (hr : r ∈ B) (hs : s ∈ B) (ne : ld r ≠ ld s) : at_ r (ld s) = 0 := by
  have := h.srt
  clear h
  induction B with
  | nil => cases hr
  | cons b B ih =>
    obtain ⟨q1, q2⟩ := List.pairwise_cons.mp this
    rcases List.mem_cons.mp hr with e | e
    · rcases List.mem_cons.mp hs with e' | e'
      · rw [e, e'] at ne; exact absurd rfl ne
      · rw [e]; exact (q1 s e').2
    · rcases List.mem_cons.mp hs with e' | e'
      · rw [e']; exact ld_before (q1 r e).1
      · exact ih e e' q2
theorem sorted_eq : ∀ {B C : List Row}, B.Pairwise (fun r s => ld r < ld s) → C.Pairwise (fun r s => ld r < ld s) → (∀ x, x ∈ B ↔ x ∈ C) → B = C
  | [], [], _, _, _ => rfl
  | [], c :: C, _, _, h => absurd ((h c).mpr (List.mem_cons_self ..)) (by simp)
  | b :: B, [], _, _, h => absurd ((h b).mp (List.mem_cons_self ..)) (by simp)
  | b :: B, c :: C, hB, hC, h => by
    obtain ⟨b1, b2⟩ := List.pairwise_cons.mp hB
    obtain ⟨c1, c2⟩ := List.pairwise_cons.mp hC
    have e : b = c := by
      rcases List.mem_cons.mp ((h b).mp (List.mem_cons_self ..)) with z | z
      · exact z
      · rcases List.mem_cons.mp ((h c).mpr (List.mem_cons_self ..)) with y | y
        · exact y.symm
        · have := c1 b z
          have := b1 c y
          omega
    subst e
    congr 1
    refine sorted_eq b2 c2 fun x => ⟨fun hx => ?_, fun hx => ?_⟩
    · rcases List.mem_cons.mp ((h x).mp (List.mem_cons_of_mem _ hx)) with z | z
      · have := b1 x hx; rw [z] at this; omega
      · exact z
    · rcases List.mem_cons.mp ((h x).mpr (List.mem_cons_of_mem _ hx)) with z | z
      · have := c1 x hx; rw [z] at this; omega
      · exact z
theorem one_nz {r : Row} (h1 : at_ r (ld r) = 1) : r ≠ zr w := fun e => by
  rw [e, at_zr] at h1
  cases h1
theorem sub_zero (hp : 0 < p) {a b : Row} (ha : Rw p w a) (hb : Rw p w b) (h : ad p a b (-1) = zr w) : a = b := by
  refine ext (ha.len.trans hb.len.symm) fun i => ?_
  have z : at_ (ad p a b (-1)) i = 0 := by rw [h]; exact at_zr w i
  rw [at_ad (ha.len.trans hb.len.symm)] at z
  have e : at_ a i + -1 * at_ b i = at_ a i - at_ b i := by omega
  rw [e] at z
  have z2 := Int.emod_emod_of_dvd (at_ a i) (Int.dvd_refl p)
  have z3 : at_ a i % p = at_ b i % p := Int.emod_eq_emod_iff_emod_sub_eq_zero.mpr z
  rw [ha.mod hp, hb.mod hp] at z3
  exact z3
theorem red_sub (hp : 0 < p) {B C : List Row} (hB : Red p w B) (hC : Red p w C) (h : ∀ v, Sp p w B v ↔ Sp p w C v) : ∀ b ∈ B, b ∈ C := fun b hb => by
  have rb := hB.rw b hb
  have sb := (h b).mp (Sp.mem hp hB.rw hb)
  obtain ⟨c, hc, ec⟩ := sp_lead hp hC rb (one_nz (hB.one b hb)) (rest_in hp hC sb)
  have rc := hC.rw c hc
  have su : Sp p w C (ad p b c (-1)) := sb.ad hp hC.rw (Sp.mem hp hC.rw hc) _
  have z := sp_zero hp hC su fun r hr => by
    rw [at_ad (rb.len.trans rc.len.symm)]
    by_cases e : ld c = ld r
    · rw [← e, hC.one c hc, ec, hB.one b hb]
      simp
    · rw [hC.off hc hr e]
      have sr := (h r).mpr (Sp.mem hp hC.rw hr)
      obtain ⟨b', hb', eb'⟩ := sp_lead hp hB (hC.rw r hr) (one_nz (hC.one r hr)) (rest_in hp hB sr)
      rw [← eb', hB.off hb hb' (by rw [eb', ← ec]; exact e)]
      simp
  rw [sub_zero hp rb rc z]
  exact hc
theorem Red.lt {B : List Row} (h : Red p w B) : B.Pairwise (fun r s => ld r < ld s) := h.srt.imp fun h => h.1
/-- THE reduced base -/
theorem red_eq (hp : 0 < p) {B C : List Row} (hB : Red p w B) (hC : Red p w C) (h : ∀ v, Sp p w B v ↔ Sp p w C v) : B = C :=
  sorted_eq hB.lt hC.lt fun x => ⟨red_sub hp hB hC h x, red_sub hp hC hB (fun v => (h v).symm) x⟩
/-! lines less a row -/
def ln (p : Int) (t r : Row) : Row := ad p r t (-(at_ r (ld t)))
theorem ln_len {t r : Row} (h : r.length = t.length) : (ln p t r).length = r.length := ad_len h _
theorem ln_at {t r : Row} (h : r.length = t.length) (i : Nat) : at_ (ln p t r) i = (at_ r i + -(at_ r (ld t)) * at_ t i) % p := at_ad h _ i
theorem ln_off (hp : 0 < p) {t r : Row} (hr : Rw p w r) (ht : Rw p w t) {i : Nat} (h : at_ t i = 0) : at_ (ln p t r) i = at_ r i := by
  rw [ln_at (hr.len.trans ht.len.symm), h, Int.mul_zero, Int.add_zero, hr.mod hp]
theorem ln_lead (hp : 0 < p) {t r : Row} (hr : Rw p w r) (ht : Rw p w t) (one : at_ t (ld t) = 1) : at_ (ln p t r) (ld t) = 0 := by
  rw [ln_at (hr.len.trans ht.len.symm), one]
  have : at_ r (ld t) + -at_ r (ld t) * 1 = 0 := by omega
  rw [this]; simp
theorem ln_ld (hp : 1 < p) {t r : Row} (hr : Rw p w r) (ht : Rw p w t) (one : at_ r (ld r) = 1) (z : at_ t (ld r) = 0) (onet : at_ t (ld t) = 1) : ld (ln p t r) = ld r := by
  have hp0 : 0 < p := by omega
  refine ld_is (by rw [ln_off hp0 hr ht z, one]; decide) fun j hj => ?_
  rcases Nat.lt_trichotomy (ld t) (ld r) with c | c | c
  · rw [ln_at (hr.len.trans ht.len.symm), ld_before hj, ld_before c]
    simp
  · rw [← c, onet] at z; cases z
  · rw [ln_off hp0 hr ht (ld_before (Nat.lt_trans hj c)), ld_before hj]
theorem lines_red (hp : 1 < p) {B : List Row} (h : Red p w B) {t : Row} (ht : Rw p w t) (onet : at_ t (ld t) = 1) (z : ∀ r ∈ B, at_ t (ld r) = 0) : Red p w (B.map (ln p t)) := by
  have hp0 : 0 < p := by omega
  have hl : ∀ r ∈ B, ld (ln p t r) = ld r := fun r hr => ln_ld hp (h.rw r hr) ht (h.one r hr) (z r hr) onet
  refine ⟨fun s hs => ?_, fun s hs => ?_, ?_⟩
  · obtain ⟨r, hr, rfl⟩ := List.mem_map.mp hs
    exact (h.rw r hr).ad hp0 ht.len _
  · obtain ⟨r, hr, rfl⟩ := List.mem_map.mp hs
    rw [hl r hr, ln_off hp0 (h.rw r hr) ht (z r hr)]
    exact h.one r hr
  · rw [List.pairwise_map]
    refine h.srt.imp_of_mem fun {r s} hr hs ⟨q1, q2⟩ => ?_
    rw [hl r hr, hl s hs, ln_off hp0 (h.rw r hr) ht (z s hs)]
    exact ⟨q1, q2⟩
/-- a row put in at its place -/
theorem put_red {A C : List Row} {t : Row} (h : Red p w (A ++ C)) (ht : Rw p w t) (onet : at_ t (ld t) = 1) (hA : ∀ r ∈ A, ld r < ld t) (hC : ∀ r ∈ C, ld t < ld r) (zt : ∀ r ∈ C, at_ t (ld r) = 0) (zr : ∀ r ∈ A, at_ r (ld t) = 0) : Red p w (A ++ t :: C) := by
  refine ⟨fun s hs => ?_, fun s hs => ?_, ?_⟩
  · rcases List.mem_append.mp hs with e | e
    · exact h.rw s (List.mem_append_left _ e)
    · rcases List.mem_cons.mp e with e | e
      · rw [e]; exact ht
      · exact h.rw s (List.mem_append_right _ e)
  · rcases List.mem_append.mp hs with e | e
    · exact h.one s (List.mem_append_left _ e)
    · rcases List.mem_cons.mp e with e | e
      · rw [e]; exact onet
      · exact h.one s (List.mem_append_right _ e)
  · obtain ⟨a1, a2, a3⟩ := List.pairwise_append.mp h.srt
    refine List.pairwise_append.mpr ⟨a1, List.pairwise_cons.mpr ⟨fun s hs => ⟨hC s hs, zt s hs⟩, a2⟩, fun a ha b hb => ?_⟩
    rcases List.mem_cons.mp hb with e | e
    · rw [e]; exact ⟨hA a ha, zr a ha⟩
    · exact a3 a ha b e
theorem split_at_lead (l : Nat) : ∀ {L : List Row}, L.Pairwise (fun r s => ld r < ld s) → (∀ r ∈ L, ld r ≠ l) → (∀ r ∈ L.take (L.filter fun r => decide (ld r < l)).length, ld r < l) ∧ ∀ r ∈ L.drop (L.filter fun r => decide (ld r < l)).length, l < ld r
  | [], _, _ => ⟨fun _ h => (by cases h), fun _ h => (by cases h)⟩
  | r :: L, h, ne => by
    obtain ⟨q1, q2⟩ := List.pairwise_cons.mp h
    rw [List.filter_cons]
    by_cases c : ld r < l
    · rw [decide_eq_true c]
      obtain ⟨z1, z2⟩ := split_at_lead l q2 fun s hs => ne s (List.mem_cons_of_mem _ hs)
      refine ⟨fun s hs => ?_, fun s hs => z2 s (by simpa using hs)⟩
      rw [if_pos rfl, List.length_cons, List.take_succ_cons] at hs
      rcases List.mem_cons.mp hs with e | e
      · rw [e]; exact c
      · exact z1 s e
    · have nr := ne r (List.mem_cons_self ..)
      have em : L.filter (fun r => decide (ld r < l)) = [] := List.filter_eq_nil_iff.mpr fun s hs => by
        have := q1 s hs
        simp; omega
      rw [decide_eq_false c, em]
      refine ⟨fun s hs => (by cases hs), fun s hs => ?_⟩
      rcases List.mem_cons.mp (by simpa using hs) with e | e
      · rw [e]; omega
      · have := q1 s e; omega
/-! a row more -/
def sc (p : Int) (c : Int) (z : Row) : Row := z.map fun x => c * x % p
theorem sc_at (c : Int) (z : Row) (i : Nat) : at_ (sc p c z) i = c * at_ z i % p := by
  unfold at_ sc
  simp only [List.getD_eq_getElem?_getD, List.getElem?_map]
  cases z[i]? <;> simp
theorem sc_ad {z : Row} (h : z.length = w) (c : Int) : sc p c z = ad p (zr w) z c := by
  have hl : (zr w).length = z.length := by rw [h]; exact List.length_replicate
  refine ext (by rw [ad_len hl]; unfold sc; rw [List.length_map, hl]) fun i => ?_
  rw [sc_at, at_ad hl, at_zr, Int.zero_add]
def Inv (p : Int) (iv : Int → Int) : Prop := ∀ x, 0 < x → x < p → iv x * x % p = 1
/-- a row scaled to lead with 1 -/
structure Scd (p : Int) (w : Nat) (z t : Row) : Prop where
  rw : Rw p w t
  ld : ld t = Li.ld z
  one : at_ t (Li.ld t) = 1
  zero : ∀ i, at_ z i = 0 → at_ t i = 0
  fwd : ∃ c, t = ad p (zr w) z c
  back : ∃ c, z = ad p (zr w) t c
theorem scd (hp : 1 < p) {iv : Int → Int} (hi : Inv p iv) {z : Row} (hz : Rw p w z) (nz : Li.ld z < w) : Scd p w z (sc p (iv (at_ z (Li.ld z))) z) := by
  have hp0 : 0 < p := by omega
  have nn := ld_at (r := z) (by rw [hz.len]; exact nz)
  have ra := hz.at hp0 (Li.ld z)
  have one := hi (at_ z (Li.ld z)) (by omega) ra.2
  generalize hc : iv (at_ z (Li.ld z)) = c at one ⊢
  have hl : (zr w).length = z.length := by rw [hz.len]; exact List.length_replicate
  have e := sc_ad (p := p) hz.len c
  have rt : Rw p w (sc p c z) := by rw [e]; exact (Rw.zr hp0 w).ad hp0 hz.len c
  have el : Li.ld (sc p c z) = Li.ld z := ld_is (by rw [sc_at, one]; decide) fun j hj => by
    rw [sc_at, ld_before hj]
    simp
  refine ⟨rt, el, by rw [el, sc_at]; exact one, fun i h => by rw [sc_at, h]; simp, ⟨c, e⟩, at_ z (Li.ld z), ?_⟩
  have hl2 : (zr w).length = (sc p c z).length := by rw [rt.len]; exact List.length_replicate
  refine ext (by rw [ad_len hl2, hz.len]; exact List.length_replicate.symm) fun i => ?_
  rw [at_ad hl2, at_zr, sc_at, m2]
  have e3 : 0 + at_ z (Li.ld z) * (c * at_ z i) = 0 + (at_ z i) * (c * at_ z (Li.ld z)) := by grind
  rw [e3, ← m2, one, Int.mul_one, Int.zero_add, hz.mod hp0]
def wr (p : Int) (iv : Int → Int) (B : List Row) (v : Row) : List Row :=
  let z := rest p B v
  match decide (Li.ld z < z.length) with
  | false => B
  | true =>
    let t := sc p (iv (at_ z (Li.ld z))) z
    let L := B.map (ln p t)
    let k := (L.filter fun r => decide (Li.ld r < Li.ld z)).length
    L.take k ++ t :: L.drop k
/-- what a row more gives -/
structure WrOk (p : Int) (w : Nat) (B : List Row) (v : Row) (C : List Row) : Prop where
  red : Red p w C
  sp : ∀ u, Sp p w C u ↔ Sp p w (v :: B) u
  len : C.length = (if rest p B v = zr w then B.length else B.length + 1)
theorem wr_ok (hp : 1 < p) {iv : Int → Int} (hi : Inv p iv) {B : List Row} (h : Red p w B) {v : Row} (hv : Rw p w v) : WrOk p w B v (wr p iv B v) := by
  have hp0 : 0 < p := by omega
  have hz := rest_rw hp0 h.rw hv
  have hvB : Rws p w (v :: B) := fun r hr => by
    rcases List.mem_cons.mp hr with e | e
    · rw [e]; exact hv
    · exact h.rw r e
  unfold wr
  dsimp only
  by_cases c : Li.ld (rest p B v) < (rest p B v).length
  · rw [decide_eq_true c]
    dsimp only
    have c' : Li.ld (rest p B v) < w := by rw [← hz.len]; exact c
    have S := scd hp hi hz c'
    generalize hzz : rest p B v = z at *
    generalize htt : sc p (iv (at_ z (Li.ld z))) z = t at *
    have z0 : ∀ r ∈ B, at_ z (Li.ld r) = 0 := fun r hr => by rw [← hzz]; exact rest_at hp0 h hv r hr
    have t0 : ∀ r ∈ B, at_ t (Li.ld r) = 0 := fun r hr => S.zero _ (z0 r hr)
    have L := lines_red hp h S.rw S.one t0
    have hl : ∀ r ∈ B, Li.ld (ln p t r) = Li.ld r := fun r hr => ln_ld hp (h.rw r hr) S.rw (h.one r hr) (t0 r hr) S.one
    have ne : ∀ r ∈ B.map (ln p t), Li.ld r ≠ Li.ld z := fun s hs e => by
      obtain ⟨r, hr, rfl⟩ := List.mem_map.mp hs
      rw [hl r hr] at e
      have := z0 r hr
      rw [e] at this
      exact ld_at c this
    obtain ⟨k1, k2⟩ := split_at_lead (Li.ld z) L.lt ne
    generalize hk : ((B.map (ln p t)).filter fun r => decide (Li.ld r < Li.ld z)).length = k at *
    have nz : z ≠ zr w := fun e => by rw [e, ld_zr] at c'; omega
    have mem : ∀ s, s ∈ (B.map (ln p t)).take k ++ t :: (B.map (ln p t)).drop k ↔ s = t ∨ s ∈ B.map (ln p t) := fun s => by
      rw [List.mem_append, List.mem_cons]
      constructor
      · rintro (a | a | a)
        · exact .inr (List.mem_of_mem_take a)
        · exact .inl a
        · exact .inr (List.mem_of_mem_drop a)
      · rintro (a | a)
        · exact .inr (.inl a)
        · rw [← List.take_append_drop k (B.map (ln p t))] at a
          rcases List.mem_append.mp a with a | a
          · exact .inl a
          · exact .inr (.inr a)
    have RC : Red p w ((B.map (ln p t)).take k ++ t :: (B.map (ln p t)).drop k) := by
      refine put_red (by rw [List.take_append_drop]; exact L) S.rw S.one (fun r hr => by rw [S.ld]; exact k1 r hr) (fun r hr => by rw [S.ld]; exact k2 r hr) (fun s hs => ?_) fun s hs => ?_
      · obtain ⟨r, hr, rfl⟩ := List.mem_map.mp (List.mem_of_mem_drop hs)
        rw [hl r hr]; exact t0 r hr
      · obtain ⟨r, hr, rfl⟩ := List.mem_map.mp (List.mem_of_mem_take hs)
        exact ln_lead hp0 (h.rw r hr) S.rw S.one
    -- the rest lies in v :: B
    have sv : Sp p w (v :: B) v := Sp.mem hp0 hvB (List.mem_cons_self ..)
    obtain ⟨s1, s2⟩ := rest_sp hp0 (v :: B) (B := B) hvB (fun r hr => List.mem_cons_of_mem _ hr) hv
    rw [hzz] at s1 s2
    have sz : Sp p w (v :: B) z := by
      have := sv.ad hp0 hvB s2 1
      have e : ad p v (ad p z v (-1)) 1 = z := by
        have l1 : z.length = v.length := hz.len.trans hv.len.symm
        have a1 := ad_len (p := p) l1 (-1)
        refine ext (by rw [ad_len] <;> omega) fun i => ?_
        rw [at_ad (by omega), at_ad l1, m2]
        have : at_ v i + 1 * (at_ z i + -1 * at_ v i) = at_ z i := by omega
        rw [this, hz.mod hp0]
      rw [e] at this
      exact this
    have st : Sp p w (v :: B) t := by
      obtain ⟨f, e⟩ := S.fwd
      rw [e]
      exact Sp.zero.ad hp0 hvB sz f
    refine ⟨RC, fun u => ⟨Sp.sub hp0 hvB fun s hs => ?_, Sp.sub hp0 RC.rw fun s hs => ?_⟩, ?_⟩
    · rcases (mem s).mp hs with e | e
      · rw [e]; exact st
      · obtain ⟨r, hr, rfl⟩ := List.mem_map.mp e
        exact (Sp.mem hp0 hvB (List.mem_cons_of_mem _ hr)).ad hp0 hvB st _
    · have tC : Sp p w ((B.map (ln p t)).take k ++ t :: (B.map (ln p t)).drop k) t := Sp.mem hp0 RC.rw ((mem t).mpr (.inl rfl))
      have bC : ∀ r ∈ B, Sp p w ((B.map (ln p t)).take k ++ t :: (B.map (ln p t)).drop k) r := fun r hr => by
        have m : ln p t r ∈ B.map (ln p t) := List.mem_map.mpr ⟨r, hr, rfl⟩
        have := (Sp.mem hp0 RC.rw ((mem _).mpr (.inr m))).ad hp0 RC.rw tC (at_ r (Li.ld t))
        unfold ln at this
        rw [ad_twice ((h.rw r hr).len.trans S.rw.len.symm), show -at_ r (Li.ld t) + at_ r (Li.ld t) = 0 by omega, ad_zero hp0 (h.rw r hr) t S.rw.len] at this
        exact this
      rcases List.mem_cons.mp hs with e | e
      · rw [e]
        obtain ⟨f, ez⟩ := S.back
        have zC : Sp p w ((B.map (ln p t)).take k ++ t :: (B.map (ln p t)).drop k) z := by
          rw [ez]; exact Sp.zero.ad hp0 RC.rw tC f
        have dB : Sp p w B (ad p v z (-1)) := by
          have := (rest_sp hp0 B (B := B) h.rw (fun r hr => hr) hv).1
          rw [hzz] at this
          exact this
        have := zC.ad hp0 RC.rw (Sp.sub hp0 RC.rw bC dB) 1
        have e2 : ad p z (ad p v z (-1)) 1 = v := by
          have l1 : v.length = z.length := hv.len.trans hz.len.symm
          have a1 := ad_len (p := p) l1 (-1)
          refine ext (by rw [ad_len] <;> omega) fun i => ?_
          rw [at_ad (by omega), at_ad l1, m2]
          have : at_ z i + 1 * (at_ v i + -1 * at_ z i) = at_ v i := by omega
          rw [this, hv.mod hp0]
        rw [e2] at this
        exact this
      · exact bC s e
    · rw [hzz, if_neg nz, List.length_append, List.length_cons, List.length_take, List.length_drop, List.length_map]
      have : k ≤ B.length := by
        rw [← hk]
        exact Nat.le_trans (List.length_filter_le _ _) (by rw [List.length_map]; exact Nat.le_refl _)
      omega
  · rw [decide_eq_false c]
    have c2 := ld_le (rest p B v)
    have ez : rest p B v = zr w := by
      rw [← hz.len]
      exact ld_zero (by omega)
    have svB := sp_of_rest hp0 h.rw hv ez
    refine ⟨h, fun u => ⟨Sp.mono fun r hr => List.mem_cons_of_mem _ hr, Sp.sub hp0 h.rw fun s hs => ?_⟩, by rw [if_pos ez]⟩
    rcases List.mem_cons.mp hs with e | e
    · rw [e]; exact svB
    · exact Sp.mem hp0 h.rw e
def redd (p : Int) (iv : Int → Int) (rows : List Row) : List Row := rows.foldl (wr p iv) []
theorem red_nil : Red p w [] := ⟨fun _ h => (by cases h), fun _ h => (by cases h), .nil⟩
theorem Sp.congr {S T : List Row} (h : ∀ r, r ∈ S ↔ r ∈ T) {u : Row} : Sp p w S u ↔ Sp p w T u := ⟨Sp.mono fun r hr => (h r).mp hr, Sp.mono fun r hr => (h r).mpr hr⟩
theorem fold_ok (hp : 1 < p) {iv : Int → Int} (hi : Inv p iv) : ∀ {rows B : List Row}, Rws p w rows → Red p w B → Red p w (rows.foldl (wr p iv) B) ∧ ∀ u, Sp p w (rows.foldl (wr p iv) B) u ↔ Sp p w (B ++ rows) u
  | [], B, _, h => ⟨h, fun u => by rw [List.append_nil]; exact Iff.rfl⟩
  | v :: rows, B, hr, h => by
    have hp0 : 0 < p := by omega
    have hv := hr v (List.mem_cons_self ..)
    have W := wr_ok hp hi h hv
    have hr' : Rws p w rows := fun s hs => hr s (List.mem_cons_of_mem _ hs)
    obtain ⟨h1, h2⟩ := fold_ok hp hi hr' W.red
    have hA : Rws p w (B ++ v :: rows) := fun s hs => by
      rcases List.mem_append.mp hs with e | e
      · exact h.rw s e
      · exact hr s e
    have hC : Rws p w (wr p iv B v ++ rows) := fun s hs => by
      rcases List.mem_append.mp hs with e | e
      · exact W.red.rw s e
      · exact hr' s e
    refine ⟨h1, fun u => (h2 u).trans ⟨Sp.sub hp0 hA fun s hs => ?_, Sp.sub hp0 hC fun s hs => ?_⟩⟩
    · rcases List.mem_append.mp hs with e | e
      · refine Sp.mono (fun r hr => ?_) ((W.sp s).mp (Sp.mem hp0 W.red.rw e))
        rcases List.mem_cons.mp hr with q | q
        · rw [q]; exact List.mem_append_right _ (List.mem_cons_self ..)
        · exact List.mem_append_left _ q
      · exact Sp.mem hp0 hA (List.mem_append_right _ (List.mem_cons_of_mem _ e))
    · have up : ∀ {s}, Sp p w (v :: B) s → Sp p w (wr p iv B v ++ rows) s := fun {s} q => Sp.mono (fun r hr => List.mem_append_left _ hr) ((W.sp s).mpr q)
      have hvB : Rws p w (v :: B) := fun r hr => by
        rcases List.mem_cons.mp hr with e | e
        · rw [e]; exact hv
        · exact h.rw r e
      rcases List.mem_append.mp hs with e | e
      · exact up (Sp.mem hp0 hvB (List.mem_cons_of_mem _ e))
      · rcases List.mem_cons.mp e with e | e
        · rw [e]; exact up (Sp.mem hp0 hvB (List.mem_cons_self ..))
        · exact Sp.mem hp0 hC (List.mem_append_right _ e)
theorem redd_ok (hp : 1 < p) {iv : Int → Int} (hi : Inv p iv) {rows : List Row} (h : Rws p w rows) : Red p w (redd p iv rows) ∧ ∀ u, Sp p w (redd p iv rows) u ↔ Sp p w rows u :=
  fold_ok hp hi h red_nil
end
end Li
-- Li3
/-! a law's own reduced base: place after place -/
namespace Li
section
variable {p : Int} {w : Nat}
/-- max(row) > 0 -/
def pos (r : Row) : Bool := r.any fun x => decide (0 < x)
theorem pos_iff (hp : 0 < p) {r : Row} (h : Rw p w r) : pos r = false ↔ r = zr w := by
  unfold pos
  constructor
  · intro e
    rw [List.any_eq_false] at e
    refine ext (b := zr w) (h.len.trans List.length_replicate.symm) fun i => ?_
    rw [at_zr]
    by_cases hi : i < r.length
    · have := e (r[i]) (List.getElem_mem hi)
      have := (h.res _ (List.getElem_mem hi)).1
      unfold at_
      rw [List.getD_eq_getElem?_getD, List.getElem?_eq_getElem hi]
      simp at *
      omega
    · exact at_out (by omega)
  · intro e
    rw [e, List.any_eq_false]
    intro x hx
    obtain rfl := List.eq_of_mem_replicate hx
    decide
/-- one place -/
def place (p : Int) (iv : Int → Int) (st : List Row × List Row) (k : Nat) : List Row × List Row :=
  match st.1.filter (fun r => decide (0 < at_ r k)) with
  | [] => st
  | z :: _ =>
    let t := sc p (iv (at_ z k)) z
    ((st.1.map fun r => ad p r t (0 - at_ r k)).filter pos, (st.2.map fun r => ad p r t (0 - at_ r k)) ++ [t])
def base (p : Int) (iv : Int → Int) (rows : List Row) (w : Nat) : List Row := ((List.range w).foldl (place p iv) (rows.filter pos, [])).2
structure BOk (p : Int) (w : Nat) (rows : List Row) (k : Nat) (st : List Row × List Row) : Prop where
  red : Red p w st.2
  low : ∀ r ∈ st.2, ld r < k
  lft : Rws p w st.1
  zer : ∀ r ∈ st.1, ∀ j, j < k → at_ r j = 0
  nz : ∀ r ∈ st.1, r ≠ zr w
  sp : ∀ u, Sp p w (st.2 ++ st.1) u ↔ Sp p w rows u
theorem place_ok (hp : 1 < p) {iv : Int → Int} (hi : Inv p iv) {rows : List Row} (hr : Rws p w rows) {k : Nat} (hk : k < w) {st : List Row × List Row} (h : BOk p w rows k st) : BOk p w rows (k + 1) (place p iv st k) := by
  have hp0 : 0 < p := by omega
  obtain ⟨L, F⟩ := st
  unfold place
  dsimp only
  have hall : Rws p w (F ++ L) := fun r hr => by
    rcases List.mem_append.mp hr with e | e
    · exact h.red.rw r e
    · exact h.lft r e
  cases e : L.filter (fun r => decide (0 < at_ r k)) with
  | nil =>
    refine ⟨h.red, fun r hr => Nat.lt_succ_of_lt (h.low r hr), h.lft, fun r hr j hj => ?_, h.nz, h.sp⟩
    rcases Nat.lt_succ_iff_lt_or_eq.mp hj with z | z
    · exact h.zer r hr j z
    · have := List.filter_eq_nil_iff.mp e r hr
      have := (Rw.at hp0 (h.lft r hr) k).1
      subst z
      simp at *
      omega
  | cons z rest' =>
    dsimp only
    have zm : z ∈ L.filter (fun r => decide (0 < at_ r k)) := by rw [e]; exact List.mem_cons_self ..
    obtain ⟨zL, zp⟩ := List.mem_filter.mp zm
    have zp := of_decide_eq_true zp
    have rz := h.lft z zL
    have lz : ld z = k := ld_is (by omega) (h.zer z zL)
    have S := scd hp hi rz (by rw [lz]; exact hk)
    rw [lz] at S
    generalize sc p (iv (at_ z k)) z = t at S ⊢
    have lt : ld t = k := S.ld.trans lz
    have tz : ∀ j, j < k → at_ t j = 0 := fun j hj => ld_before (by omega)
    have t0 : ∀ r ∈ F, at_ t (ld r) = 0 := fun r hr => tz _ (h.low r hr)
    have eln : ∀ r : Row, ad p r t (0 - at_ r k) = ln p t r := fun r => by
      unfold ln
      rw [lt, Int.zero_sub]
    have RL := lines_red hp h.red S.rw S.one t0
    have hl : ∀ r ∈ F, ld (ln p t r) = ld r := fun r hr => ln_ld hp (h.red.rw r hr) S.rw (h.red.one r hr) (t0 r hr) S.one
    simp only [eln]
    have lr : ∀ r ∈ L, Rw p w (ln p t r) := fun r hr => (h.lft r hr).ad hp0 S.rw.len _
    have RC : Red p w (F.map (ln p t) ++ [t]) := by
      refine put_red (C := []) (by rw [List.append_nil]; exact RL) S.rw S.one (fun s hs => ?_) (fun s hs => by cases hs) (fun s hs => by cases hs) fun s hs => ?_
      · obtain ⟨r, hr, rfl⟩ := List.mem_map.mp hs
        rw [hl r hr, lt]
        exact h.low r hr
      · obtain ⟨r, hr, rfl⟩ := List.mem_map.mp hs
        exact ln_lead hp0 (h.red.rw r hr) S.rw S.one
    have st' : Sp p w (F ++ L) t := by
      obtain ⟨f, et⟩ := S.fwd
      rw [et]
      exact Sp.zero.ad hp0 hall (Sp.mem hp0 hall (List.mem_append_right _ zL)) f
    have hnew : Rws p w (F.map (ln p t) ++ [t] ++ (L.map (ln p t)).filter pos) := fun s hs => by
      rcases List.mem_append.mp hs with q | q
      · exact RC.rw s q
      · obtain ⟨r, hr, rfl⟩ := List.mem_map.mp (List.mem_filter.mp q).1
        exact lr r hr
    have tn : Sp p w (F.map (ln p t) ++ [t] ++ (L.map (ln p t)).filter pos) t := Sp.mem hp0 hnew (List.mem_append_left _ (List.mem_append_right _ (List.mem_cons_self ..)))
    have bk : ∀ r, Rw p w r → Sp p w (F.map (ln p t) ++ [t] ++ (L.map (ln p t)).filter pos) (ln p t r) → Sp p w (F.map (ln p t) ++ [t] ++ (L.map (ln p t)).filter pos) r := fun r rr q => by
      have := q.ad hp0 hnew tn (at_ r (ld t))
      unfold ln at this
      rw [ad_twice (rr.len.trans S.rw.len.symm), show -at_ r (ld t) + at_ r (ld t) = 0 by omega, ad_zero hp0 rr t S.rw.len] at this
      exact this
    refine ⟨RC, fun s hs => ?_, fun s hs => ?_, fun s hs j hj => ?_, fun s hs q => ?_, fun u => (Iff.trans ⟨Sp.sub hp0 hall fun s hs => ?_, Sp.sub hp0 hnew fun s hs => ?_⟩ (h.sp u))⟩
    · rcases List.mem_append.mp hs with q | q
      · obtain ⟨r, hr, rfl⟩ := List.mem_map.mp q
        rw [hl r hr]
        exact Nat.lt_succ_of_lt (h.low r hr)
      · rw [List.mem_singleton.mp q, lt]; exact Nat.lt_succ_self k
    · obtain ⟨r, hr, rfl⟩ := List.mem_map.mp (List.mem_filter.mp hs).1
      exact lr r hr
    · obtain ⟨r, hr, rfl⟩ := List.mem_map.mp (List.mem_filter.mp hs).1
      rcases Nat.lt_succ_iff_lt_or_eq.mp hj with q | q
      · rw [ln_off hp0 (h.lft r hr) S.rw (tz j q)]
        exact h.zer r hr j q
      · rw [q, ← lt]
        exact ln_lead hp0 (h.lft r hr) S.rw S.one
    · have := (List.mem_filter.mp hs).2
      obtain ⟨r, hr, rfl⟩ := List.mem_map.mp (List.mem_filter.mp hs).1
      rw [(pos_iff hp0 (lr r hr)).mpr q] at this
      cases this
    · rcases List.mem_append.mp hs with q | q
      · rcases List.mem_append.mp q with q | q
        · obtain ⟨r, hr, rfl⟩ := List.mem_map.mp q
          exact (Sp.mem hp0 hall (List.mem_append_left _ hr)).ad hp0 hall st' _
        · rw [List.mem_singleton.mp q]; exact st'
      · obtain ⟨r, hr, rfl⟩ := List.mem_map.mp (List.mem_filter.mp q).1
        exact (Sp.mem hp0 hall (List.mem_append_right _ hr)).ad hp0 hall st' _
    · rcases List.mem_append.mp hs with q | q
      · exact bk s (h.red.rw s q) (Sp.mem hp0 hnew (List.mem_append_left _ (List.mem_append_left _ (List.mem_map.mpr ⟨s, q, rfl⟩))))
      · refine bk s (h.lft s q) ?_
        cases c : pos (ln p t s) with
        | true => exact Sp.mem hp0 hnew (List.mem_append_right _ (List.mem_filter.mpr ⟨List.mem_map.mpr ⟨s, q, rfl⟩, c⟩))
        | false =>
          rw [(pos_iff hp0 (lr s q)).mp c]
          exact .zero
theorem base_ok (hp : 1 < p) {iv : Int → Int} (hi : Inv p iv) {rows : List Row} (hr : Rws p w rows) : Red p w (base p iv rows w) ∧ ∀ u, Sp p w (base p iv rows w) u ↔ Sp p w rows u := by
  have hp0 : 0 < p := by omega
  have key : ∀ n, n ≤ w → BOk p w rows n ((List.range n).foldl (place p iv) (rows.filter pos, [])) := by
    intro n
    induction n with
    | zero =>
      intro _
      have hf : Rws p w (rows.filter pos) := fun r h => hr r (List.mem_filter.mp h).1
      refine ⟨red_nil, fun _ h => (by cases h), hf, fun _ _ j h => (by omega), fun r h q => ?_, fun u => ⟨Sp.mono fun r h => ?_, Sp.sub hp0 (by exact fun r h => hf r (by simpa using h)) fun r h => ?_⟩⟩
      · have := (List.mem_filter.mp h).2
        rw [(pos_iff hp0 (hf r h)).mpr q] at this
        cases this
      · exact (List.mem_filter.mp (by simpa using h)).1
      · cases c : pos r with
        | true => exact Sp.mem hp0 (by exact fun r h => hf r (by simpa using h)) (by simpa using ⟨h, c⟩)
        | false => rw [(pos_iff hp0 (hr r h)).mp c]; exact .zero
    | succ n ih =>
      intro hn
      rw [List.range_succ, List.foldl_append]
      exact place_ok hp hi hr (by omega) (ih (by omega))
  have B := key w (Nat.le_refl w)
  unfold base
  have em : ((List.range w).foldl (place p iv) (rows.filter pos, [])).1 = [] := by
    cases e : ((List.range w).foldl (place p iv) (rows.filter pos, [])).1 with
    | nil => rfl
    | cons r L =>
      have hm : r ∈ ((List.range w).foldl (place p iv) (rows.filter pos, [])).1 := by rw [e]; exact List.mem_cons_self ..
      refine absurd (ext (b := zr w) ((B.lft r hm).len.trans List.length_replicate.symm) fun i => ?_) (B.nz r hm)
      rw [at_zr]
      by_cases c : i < w
      · exact B.zer r hm i c
      · exact at_out (by rw [(B.lft r hm).len]; omega)
  refine ⟨B.red, fun u => ?_⟩
  have := B.sp u
  rw [em, List.append_nil] at this
  exact this
/-- both ways give the same -/
theorem base_redd (hp : 1 < p) {iv iw : Int → Int} (hi : Inv p iv) (hw : Inv p iw) {rows rows' : List Row} (hr : Rws p w rows) (hr' : Rws p w rows') (h : ∀ u, Sp p w rows u ↔ Sp p w rows' u) : redd p iv rows = base p iw rows' w := by
  obtain ⟨a1, a2⟩ := redd_ok hp hi hr
  obtain ⟨b1, b2⟩ := base_ok hp hw hr'
  exact red_eq (by omega) a1 b1 fun v => (a2 v).trans ((h v).trans (b2 v).symm)
theorem base_self (hp : 1 < p) {iv : Int → Int} (hi : Inv p iv) {B : List Row} (h : Red p w B) : base p iv B w = B :=
  let ⟨b1, b2⟩ := base_ok hp hi h.rw
  red_eq (by omega) b1 h b2
theorem redd_self (hp : 1 < p) {iv : Int → Int} (hi : Inv p iv) {B : List Row} (h : Red p w B) : redd p iv B = B :=
  let ⟨b1, b2⟩ := redd_ok hp hi h.rw
  red_eq (by omega) b1 h b2
end
end Li
-- Li4
/-! sums of rows by factors; kernels -/
namespace Li
def dot : Row → Row → Int
  | a :: x, b :: y => a * b + dot x y
  | _, _ => 0
def cmb (p : Int) (w : Nat) (T : List Row) (x : Row) : Row := (List.range w).map fun j => dot x (T.map (at_ · j)) % p
def unit : Nat → Nat → Row
  | 0, _ => []
  | n + 1, 0 => 1 :: zr n
  | n + 1, i + 1 => 0 :: unit n i
section
variable {p : Int} {w : Nat}
theorem dot_zeros : ∀ (x : Row) (c : Row), (∀ y ∈ c, y = 0) → dot x c = 0
  | [], _, _ => rfl
  | a :: x, [], _ => rfl
  | a :: x, b :: c, h => by
    unfold dot
    rw [h b (List.mem_cons_self ..), dot_zeros x c fun y hy => h y (List.mem_cons_of_mem _ hy)]
    omega
theorem dot_zr : ∀ (n : Nat) (c : Row), dot (zr n) c = 0
  | 0, _ => rfl
  | n + 1, [] => rfl
  | n + 1, b :: c => by
    show 0 * b + dot (zr n) c = 0
    rw [dot_zr n c]
    omega
theorem dot_ad : ∀ (x y c : Row) (f : Int), x.length = y.length → dot (ad p x y f) c % p = (dot x c + f * dot y c) % p
  | [], [], c, f, _ => by
    show (0 : Int) % p = (0 + f * 0) % p
    simp
  | a :: x, b :: y, [], f, _ => by
    show (0 : Int) % p = (0 + f * 0) % p
    simp
  | a :: x, b :: y, d :: c, f, h => by
    have ih := dot_ad x y c f (by simpa using h)
    show ((a + f * b) % p * d + dot (ad p x y f) c) % p = (a * d + dot x c + f * (b * d + dot y c)) % p
    rw [Int.add_emod, ih, ← Int.add_emod]
    have e : (a + f * b) % p * d + (dot x c + f * dot y c) = (dot x c + f * dot y c) + ((a + f * b) % p) * d := by omega
    rw [e, m3]
    congr 1
    grind
theorem dot_app : ∀ (x y c d : Row), x.length = c.length → dot (x ++ y) (c ++ d) = dot x c + dot y d
  | [], y, [], d, _ => by
    show dot y d = 0 + dot y d
    omega
  | a :: x, y, b :: c, d, h => by
    have ih := dot_app x y c d (by simpa using h)
    show a * b + dot (x ++ y) (c ++ d) = a * b + dot x c + dot y d
    rw [ih]
    omega
theorem unit_len : ∀ n i, (unit n i).length = n
  | 0, _ => rfl
  | n + 1, 0 => congrArg (· + 1) List.length_replicate
  | n + 1, i + 1 => congrArg (· + 1) (unit_len n i)
theorem unit_at : ∀ n i j, at_ (unit n i) j = if i = j ∧ i < n then 1 else 0
  | 0, i, j => by
    rw [if_neg (by omega)]
    exact at_out (by simp [unit])
  | n + 1, 0, 0 => rfl
  | n + 1, 0, j + 1 => by
    rw [if_neg (by omega)]
    exact at_zr n j
  | n + 1, i + 1, 0 => by rw [if_neg (by omega)]; rfl
  | n + 1, i + 1, j + 1 => by
    show at_ (unit n i) j = _
    rw [unit_at n i j]
    by_cases h : i = j ∧ i < n
    · rw [if_pos h, if_pos (by omega)]
    · rw [if_neg h, if_neg (by omega)]
theorem unit_rw (hp : 1 < p) (n i : Nat) : Rw p n (unit n i) := ⟨unit_len n i, by
  induction n generalizing i with
  | zero => intro x hx; cases hx
  | succ n ih =>
    intro x hx
    cases i with
    | zero =>
      rcases List.mem_cons.mp hx with e | e
      · omega
      · have := List.eq_of_mem_replicate e; omega
    | succ i =>
      rcases List.mem_cons.mp hx with e | e
      · omega
      · exact ih i x e⟩
theorem dot_unit : ∀ (n i : Nat) (c : Row), c.length = n → dot (unit n i) c = at_ c i
  | 0, i, c, h => by
    have : c = [] := List.length_eq_zero_iff.mp h
    subst this
    rfl
  | n + 1, 0, b :: c, h => by
    show 1 * b + dot (zr n) c = b
    rw [dot_zr]; omega
  | n + 1, i + 1, b :: c, h => by
    show 0 * b + dot (unit n i) c = at_ c i
    rw [dot_unit n i c (by simpa using h)]; omega
theorem cmb_len (T : List Row) (x : Row) : (cmb p w T x).length = w := by
  unfold cmb
  rw [List.length_map, List.length_range]
theorem cmb_rw (hp : 0 < p) (T : List Row) (x : Row) : Rw p w (cmb p w T x) := ⟨cmb_len T x, fun y hy => by
  obtain ⟨j, _, rfl⟩ := List.mem_map.mp hy
  exact ⟨Int.emod_nonneg _ (by omega), Int.emod_lt_of_pos _ hp⟩⟩
theorem at_cmb {T : List Row} (hT : ∀ r ∈ T, r.length = w) (x : Row) (j : Nat) : at_ (cmb p w T x) j = dot x (T.map (at_ · j)) % p := by
  by_cases h : j < w
  · unfold cmb
    conv => lhs; unfold at_
    rw [List.getD_eq_getElem?_getD, List.getElem?_map, List.getElem?_range h]
    rfl
  · rw [at_out (by rw [cmb_len]; omega), dot_zeros]
    · simp
    · intro y hy
      obtain ⟨r, hr, rfl⟩ := List.mem_map.mp hy
      exact at_out (by rw [hT r hr]; omega)
theorem Rws.lens {T : List Row} (h : Rws p w T) : ∀ r ∈ T, r.length = w := fun r hr => (h r hr).len
theorem cmb_nil (x : Row) : cmb p w [] x = zr w := by
  refine ext (by rw [cmb_len]; exact List.length_replicate.symm) fun i => ?_
  rw [at_cmb (by simp), at_zr]
  cases x <;> simp [dot]
theorem cmb_cons (hp : 0 < p) {r : Row} {T : List Row} (h : Rws p w (r :: T)) (a : Int) (x : Row) : cmb p w (r :: T) (a :: x) = ad p (cmb p w T x) r a := by
  have hr := (h r (List.mem_cons_self ..)).len
  have hT : ∀ s ∈ T, s.length = w := fun s hs => (h s (List.mem_cons_of_mem _ hs)).len
  refine ext (by rw [ad_len] <;> simp [cmb_len, hr]) fun i => ?_
  rw [at_cmb h.lens, at_ad (by rw [cmb_len, hr]), at_cmb hT, m1]
  show (a * at_ r i + dot x _) % p = _
  congr 1
  omega
theorem cmb_ad {T : List Row} (hT : ∀ r ∈ T, r.length = w) {x y : Row} (h : x.length = y.length) (f : Int) : cmb p w T (ad p x y f) = ad p (cmb p w T x) (cmb p w T y) f := by
  refine ext (by rw [ad_len] <;> simp [cmb_len]) fun i => ?_
  rw [at_cmb hT, at_ad (by simp [cmb_len]), at_cmb hT, at_cmb hT, m1, m2, dot_ad _ _ _ _ h]
theorem cmb_zr {T : List Row} (hT : ∀ r ∈ T, r.length = w) (n : Nat) : cmb p w T (zr n) = zr w := by
  refine ext (by rw [cmb_len]; exact List.length_replicate.symm) fun i => ?_
  rw [at_cmb hT, at_zr, dot_zr]
  simp
theorem cmb_app (hp : 0 < p) {S T : List Row} (hS : ∀ r ∈ S, r.length = w) (hT : ∀ r ∈ T, r.length = w) {x y : Row} (h : x.length = S.length) : cmb p w (S ++ T) (x ++ y) = ad p (cmb p w S x) (cmb p w T y) 1 := by
  refine ext (by rw [ad_len] <;> simp [cmb_len]) fun i => ?_
  rw [at_cmb (by intro r hr; rcases List.mem_append.mp hr with e | e; exact hS r e; exact hT r e), at_ad (by simp [cmb_len]), at_cmb hS, at_cmb hT, m1, m2, List.map_append, dot_app _ _ _ _ (by simpa using h), Int.one_mul]
theorem cmb_sp (hp : 0 < p) : ∀ {T : List Row}, Rws p w T → ∀ (x : Row), x.length = T.length → Sp p w T (cmb p w T x)
  | [], _, x, _ => by rw [cmb_nil]; exact .zero
  | r :: T, h, a :: x, hl => by
    rw [cmb_cons hp h]
    have ih := cmb_sp hp (T := T) (fun s hs => h s (List.mem_cons_of_mem _ hs)) x (by simpa using hl)
    exact .add _ (Sp.mono (fun s hs => List.mem_cons_of_mem _ hs) ih) (List.mem_cons_self ..)
theorem cmb_unit (hp : 0 < p) {T : List Row} (h : Rws p w T) (i : Nat) (hi : i < T.length) : cmb p w T (unit T.length i) = T[i] := by
  have rr := h _ (List.getElem_mem hi)
  refine ext (by rw [cmb_len, rr.len]) fun j => ?_
  rw [at_cmb h.lens, dot_unit _ _ _ (by simp)]
  conv => lhs; unfold at_
  rw [List.getD_eq_getElem?_getD, List.getElem?_map, List.getElem?_eq_getElem hi]
  show at_ T[i] j % p = _
  exact rr.mod hp j
theorem sp_cmb (hp : 1 < p) {T : List Row} (h : Rws p w T) {v : Row} (hv : Sp p w T v) : ∃ x, Rw p T.length x ∧ v = cmb p w T x := by
  have hp0 : 0 < p := by omega
  induction hv with
  | zero => exact ⟨zr _, Rw.zr hp0 _, (cmb_zr h.lens _).symm⟩
  | @add v r f hv hr ih =>
    obtain ⟨x, hx, rfl⟩ := ih
    obtain ⟨i, hi, rfl⟩ := List.getElem_of_mem hr
    have hu := unit_rw hp T.length i
    refine ⟨ad p x (unit T.length i) f, hx.ad hp0 hu.len f, ?_⟩
    rw [cmb_ad h.lens (hx.len.trans hu.len.symm), cmb_unit hp0 h i hi]
/-! linear maps -/
theorem Sp.map {n : Nat} {S : List Row} (φ : Row → Row) (hp : 0 < p) (hS : Rws p n S) (h0 : φ (zr n) = zr w) (ha : ∀ v r f, Rw p n v → Rw p n r → φ (Li.ad p v r f) = Li.ad p (φ v) (φ r) f) {v : Row} (h : Sp p n S v) : Sp p w (S.map φ) (φ v) := by
  induction h with
  | zero => rw [h0]; exact .zero
  | @add v r f hv hr ih =>
    rw [ha v r f (hv.rw hp hS) (hS r hr)]
    exact .add f ih (List.mem_map.mpr ⟨r, hr, rfl⟩)
theorem Sp.unmap {n : Nat} {S : List Row} (φ : Row → Row) (hp : 0 < p) (hS : Rws p n S) (h0 : φ (zr n) = zr w) (ha : ∀ v r f, Rw p n v → Rw p n r → φ (Li.ad p v r f) = Li.ad p (φ v) (φ r) f) {u : Row} (h : Sp p w (S.map φ) u) : ∃ v, Sp p n S v ∧ φ v = u := by
  induction h with
  | zero => exact ⟨zr n, .zero, h0⟩
  | @add u s f hu hs ih =>
    obtain ⟨v, hv, rfl⟩ := ih
    obtain ⟨r, hr, rfl⟩ := List.mem_map.mp hs
    exact ⟨Li.ad p v r f, .add f hv hr, ha v r f (hv.rw hp hS) (hS r hr)⟩
/-! tables beside the single rows -/
def bes (n : Nat) : Nat → List Row → List Row
  | _, [] => []
  | i, r :: T => (r ++ unit n i) :: bes n (i + 1) T
theorem bes_len (n : Nat) : ∀ (i : Nat) (T : List Row), (bes n i T).length = T.length
  | _, [] => rfl
  | i, r :: T => congrArg (· + 1) (bes_len n (i + 1) T)
theorem Rw.app {n : Nat} {a b : Row} (ha : Rw p w a) (hb : Rw p n b) : Rw p (w + n) (a ++ b) := ⟨by rw [List.length_append, ha.len, hb.len], fun x hx => by
  rcases List.mem_append.mp hx with e | e
  · exact ha.res x e
  · exact hb.res x e⟩
theorem bes_rw (hp : 1 < p) (n : Nat) : ∀ (i : Nat) {T : List Row}, Rws p w T → Rws p (w + n) (bes n i T)
  | _, [], _, r, hr => by cases hr
  | i, s :: T, h, r, hr => by
    rcases List.mem_cons.mp hr with e | e
    · rw [e]; exact (h s (List.mem_cons_self ..)).app (unit_rw hp n i)
    · exact bes_rw hp n (i + 1) (fun s hs => h s (List.mem_cons_of_mem _ hs)) r e
theorem at_appl {a b : Row} {j : Nat} (h : j < a.length) : at_ (a ++ b) j = at_ a j := by
  unfold at_
  rw [List.getD_eq_getElem?_getD, List.getD_eq_getElem?_getD, List.getElem?_append_left h]
theorem at_appr {a b : Row} (j : Nat) : at_ (a ++ b) (a.length + j) = at_ b j := by
  unfold at_
  rw [List.getD_eq_getElem?_getD, List.getD_eq_getElem?_getD, List.getElem?_append_right (by omega), Nat.add_sub_cancel_left]
theorem bes_coll (n : Nat) : ∀ (i : Nat) {T : List Row}, (∀ r ∈ T, r.length = w) → ∀ {j : Nat}, j < w → (bes n i T).map (at_ · j) = T.map (at_ · j)
  | _, [], _, _, _ => rfl
  | i, r :: T, h, j, hj => by
    show at_ (r ++ unit n i) j :: (bes n (i + 1) T).map (at_ · j) = at_ r j :: T.map (at_ · j)
    rw [at_appl (by rw [h r (List.mem_cons_self ..)]; exact hj), bes_coll n (i + 1) (fun s hs => h s (List.mem_cons_of_mem _ hs)) hj]
theorem bes_colr (n : Nat) : ∀ (i : Nat) {T : List Row}, (∀ r ∈ T, r.length = w) → i + T.length ≤ n → ∀ (x : Row), x.length = T.length → ∀ (m : Nat), dot x ((bes n i T).map (at_ · (w + m))) = if i ≤ m then at_ x (m - i) else 0
  | i, [], _, _, x, hx, m => by
    have : x = [] := List.length_eq_zero_iff.mp hx
    subst this
    show (0 : Int) = _
    split
    · exact (at_out (by simp)).symm
    · rfl
  | i, r :: T, h, hn, a :: x, hx, m => by
    have hr := h r (List.mem_cons_self ..)
    simp only [List.length_cons] at hn
    have ih := bes_colr n (i + 1) (T := T) (fun s hs => h s (List.mem_cons_of_mem _ hs)) (by omega) x (by simpa using hx) m
    show a * at_ (r ++ unit n i) (w + m) + dot x ((bes n (i + 1) T).map (at_ · (w + m))) = _
    rw [ih, ← hr, at_appr, unit_at]
    rcases Nat.lt_trichotomy i m with c | c | c
    · rw [if_neg (by omega), if_pos (by omega), if_pos (by omega)]
      have : m - i = (m - (i + 1)) + 1 := by omega
      rw [this]
      show a * 0 + _ = at_ x (m - (i + 1))
      omega
    · rw [if_pos (by omega), if_neg (by omega), if_pos (by omega)]
      have : m - i = 0 := by omega
      rw [this]
      show a * 1 + 0 = a
      omega
    · rw [if_neg (by omega), if_neg (by omega), if_neg (by omega)]
      omega
theorem cmb_bes (hp : 0 < p) {T : List Row} (h : Rws p w T) {x : Row} (hx : Rw p T.length x) : cmb p (w + T.length) (bes T.length 0 T) x = cmb p w T x ++ x := by
  have hlen : ∀ r ∈ bes T.length 0 T, r.length = w + T.length := by
    intro r hr
    have : ∀ (n i : Nat) (T : List Row), (∀ r ∈ T, r.length = w) → ∀ r ∈ bes n i T, r.length = w + n := by
      intro n i T
      induction T generalizing i with
      | nil => intro _ r hr; cases hr
      | cons s T ih =>
        intro hh r hr
        rcases List.mem_cons.mp hr with e | e
        · rw [e, List.length_append, unit_len, hh s (List.mem_cons_self ..)]
        · exact ih (i + 1) (fun s hs => hh s (List.mem_cons_of_mem _ hs)) r e
    exact this _ _ _ h.lens r hr
  refine ext (by rw [cmb_len, List.length_append, cmb_len, hx.len]) fun j => ?_
  rw [at_cmb hlen]
  by_cases c : j < w
  · rw [bes_coll _ 0 h.lens c, at_appl (by rw [cmb_len]; exact c), at_cmb h.lens]
  · have e : j = w + (j - w) := by omega
    rw [e, bes_colr _ 0 h.lens (by omega) x hx.len, if_pos (by omega)]
    have := at_appr (a := cmb p w T x) (b := x) (j - w)
    rw [cmb_len] at this
    rw [this, Nat.sub_zero]
    exact hx.mod hp _
theorem app_inj {a b c d : Row} (h : a.length = c.length) (e : a ++ b = c ++ d) : a = c ∧ b = d := List.append_inj e h
theorem bes_sp (hp : 1 < p) {T : List Row} (h : Rws p w T) {u : Row} : Sp p (w + T.length) (bes T.length 0 T) u ↔ ∃ x, Rw p T.length x ∧ u = cmb p w T x ++ x := by
  have hp0 : 0 < p := by omega
  have hb := bes_rw (w := w) hp T.length 0 h
  constructor
  · intro hu
    obtain ⟨x, hx, e⟩ := sp_cmb hp hb hu
    rw [bes_len] at hx
    exact ⟨x, hx, by rw [e, cmb_bes hp0 h hx]⟩
  · rintro ⟨x, hx, e⟩
    rw [e, ← cmb_bes hp0 h hx]
    exact cmb_sp hp0 hb x (by rw [bes_len]; exact hx.len)
/-! the lower and the upper part of a base -/
/-- any(row[:w]) -/
def up (w : Nat) (r : Row) : Bool := (r.take w).any fun x => x != 0
def ker (w : Nat) (W : List Row) : List Row := (W.filter fun r => !up w r).map (·.drop w)
def abv (w : Nat) (W : List Row) : List Row := (W.filter (up w)).map (·.take w)
theorem at_drop (w : Nat) (r : Row) (i : Nat) : at_ (r.drop w) i = at_ r (w + i) := by
  unfold at_
  rw [List.getD_eq_getElem?_getD, List.getD_eq_getElem?_getD, List.getElem?_drop]
theorem at_take {w : Nat} (r : Row) {i : Nat} (h : i < w) : at_ (r.take w) i = at_ r i := by
  unfold at_
  rw [List.getD_eq_getElem?_getD, List.getD_eq_getElem?_getD, List.getElem?_take_of_lt h]
theorem up_iff {n : Nat} {r : Row} (hr : r.length = w + n) : up w r = true ↔ ld r < w := by
  unfold up
  constructor
  · intro h
    obtain ⟨x, hx, nx⟩ := List.any_eq_true.mp h
    obtain ⟨i, hi, rfl⟩ := List.getElem_of_mem hx
    rw [List.length_take] at hi
    rcases Nat.lt_or_ge i (ld r) with c | c
    · have := ld_before c
      unfold at_ at this
      rw [List.getD_eq_getElem?_getD, List.getElem?_eq_getElem (by omega)] at this
      rw [List.getElem_take] at nx
      simp only [Option.getD_some] at this
      rw [this] at nx
      cases nx
    · omega
  · intro h
    refine List.any_eq_true.mpr ⟨at_ r (ld r), ?_, ?_⟩
    · unfold at_
      rw [List.getD_eq_getElem?_getD, List.getElem?_eq_getElem (by omega)]
      have : r[ld r]'(by omega) = (r.take w)[ld r]'(by rw [List.length_take]; omega) := by rw [List.getElem_take]
      simp only [Option.getD_some]
      rw [this]
      exact List.getElem_mem _
    · have := ld_at (r := r) (by omega)
      simpa using this
theorem up_no {n : Nat} {r : Row} (hr : r.length = w + n) : up w r = false ↔ w ≤ ld r := by
  have := up_iff hr
  cases c : up w r with
  | true => simp; exact this.mp c
  | false =>
    simp
    rw [c] at this
    simp at this
    exact this
theorem take_low {n : Nat} {r : Row} (hr : r.length = w + n) (h : w ≤ ld r) : r.take w = zr w := by
  refine ext (by rw [List.length_take]; unfold zr; rw [List.length_replicate]; omega) fun i => ?_
  rw [at_zr]
  by_cases c : i < w
  · rw [at_take r c]; exact ld_before (by omega)
  · exact at_out (by rw [List.length_take]; omega)
theorem low_eq {n : Nat} {r : Row} (hr : r.length = w + n) (h : w ≤ ld r) : r = zr w ++ r.drop w := by
  rw [← take_low hr h, List.take_append_drop]
theorem ld_app {r : Row} : ld (zr w ++ r) = w + ld r := by
  induction w with
  | zero => simp [zr]
  | succ n ih =>
    have e : zr (n + 1) ++ r = 0 :: (zr n ++ r) := rfl
    have e2 : ld (0 :: (zr n ++ r)) = ld (zr n ++ r) + 1 := rfl
    rw [e, e2, ih]
    omega
theorem ker_red {n : Nat} {W : List Row} (h : Red p (w + n) W) : Red p n (ker w W) := by
  have hm : ∀ s ∈ ker w W, ∃ r ∈ W, w ≤ ld r ∧ s = r.drop w ∧ r = zr w ++ s ∧ ld r = w + ld s := fun s hs => by
    obtain ⟨r, hr, rfl⟩ := List.mem_map.mp hs
    obtain ⟨h1, h2⟩ := List.mem_filter.mp hr
    have hl := (h.rw r h1).len
    have lw := (up_no hl).mp (by simpa using h2)
    have e := low_eq hl lw
    refine ⟨r, h1, lw, rfl, e, ?_⟩
    have := ld_app (w := w) (r := r.drop w)
    rw [← e] at this
    exact this
  refine ⟨fun s hs => ?_, fun s hs => ?_, ?_⟩
  · obtain ⟨r, hr, lw, rfl, _, _⟩ := hm s hs
    refine ⟨by rw [List.length_drop, (h.rw r hr).len]; omega, fun x hx => (h.rw r hr).res x (List.mem_of_mem_drop hx)⟩
  · obtain ⟨r, hr, lw, rfl, _, e⟩ := hm s hs
    rw [at_drop, ← e]
    exact h.one r hr
  · unfold ker
    rw [List.pairwise_map]
    refine (h.srt.filter _).imp_of_mem fun {r s} hr hs ⟨q1, q2⟩ => ?_
    obtain ⟨h1, h2⟩ := List.mem_filter.mp hr
    obtain ⟨h3, h4⟩ := List.mem_filter.mp hs
    have e1 := low_eq (h.rw r h1).len ((up_no (h.rw r h1).len).mp (by simpa using h2))
    have e2 := low_eq (h.rw s h3).len ((up_no (h.rw s h3).len).mp (by simpa using h4))
    have l1 : ld r = w + ld (r.drop w) := by
      have := ld_app (w := w) (r := r.drop w)
      rw [← e1] at this
      exact this
    have l2 : ld s = w + ld (s.drop w) := by
      have := ld_app (w := w) (r := s.drop w)
      rw [← e2] at this
      exact this
    refine ⟨by omega, ?_⟩
    rw [at_drop, ← l2]
    exact q2
theorem ad_app {a b c d : Row} (h : a.length = c.length) (f : Int) : ad p (a ++ b) (c ++ d) f = ad p a c f ++ ad p b d f := by
  unfold ad
  rw [List.zipWith_append h]
theorem step_low (hp : 0 < p) {n : Nat} {x r : Row} : step p (zr w ++ x) (zr w ++ r) = zr w ++ step p x r := by
  unfold step
  rw [ad_app rfl, ld_app]
  have := at_appr (a := zr w) (b := x) (ld r)
  rw [show (zr w).length = w from List.length_replicate] at this
  rw [this, ad_zr hp (Rw.zr hp w)]
theorem rest_low (hp : 0 < p) {n : Nat} : ∀ {W : List Row}, Rws p (w + n) W → ∀ {x : Row}, Rw p n x → rest p W (zr w ++ x) = zr w ++ rest p (ker w W) x
  | [], _, _, _ => rfl
  | r :: W, h, x, hx => by
    have hr := h r (List.mem_cons_self ..)
    have h' : Rws p (w + n) W := fun s hs => h s (List.mem_cons_of_mem _ hs)
    show rest p W (step p (zr w ++ x) r) = _
    unfold ker
    rw [List.filter_cons]
    cases c : up w r with
    | true =>
      have lw := (up_iff hr.len).mp c
      rw [step_triv hp ((Rw.zr hp w).app hx) hr (by rw [at_appl (by rw [show (zr w).length = w from List.length_replicate]; exact lw)]; exact at_zr w _)]
      exact rest_low hp h' hx
    | false =>
      have lw := (up_no hr.len).mp c
      have e := low_eq hr.len lw
      have rd : Rw p n (r.drop w) := ⟨by rw [List.length_drop, hr.len]; omega, fun y hy => hr.res y (List.mem_of_mem_drop hy)⟩
      have e2 : step p (zr w ++ x) r = zr w ++ step p x (r.drop w) := by
        have := step_low (p := p) (w := w) hp (n := n) (x := x) (r := r.drop w)
        rw [← e] at this
        exact this
      rw [e2]
      exact rest_low hp h' (step_rw hp hx rd)
/-- the kernel -/
theorem ker_sp (hp : 1 < p) {T W : List Row} (hT : Rws p w T) (h : Red p (w + T.length) W) (hs : ∀ u, Sp p (w + T.length) W u ↔ Sp p (w + T.length) (bes T.length 0 T) u) {x : Row} : Sp p T.length (ker w W) x ↔ Rw p T.length x ∧ cmb p w T x = zr w := by
  have hp0 : 0 < p := by omega
  have hk := ker_red h
  constructor
  · intro hx
    have rx := hx.rw hp0 hk.rw
    have e : rest p W (zr w ++ x) = zr (w + T.length) := by
      rw [rest_low hp0 h.rw rx, rest_in hp0 hk hx]
      unfold zr
      rw [List.replicate_append_replicate]
    have := (hs _).mp (sp_of_rest hp0 h.rw ((Rw.zr hp0 w).app rx) e)
    obtain ⟨y, hy, e2⟩ := (bes_sp hp hT).mp this
    obtain ⟨e3, e4⟩ := app_inj (by rw [cmb_len]; exact List.length_replicate) e2
    exact ⟨rx, by rw [e4]; exact e3.symm⟩
  · rintro ⟨rx, e⟩
    have : Sp p (w + T.length) W (zr w ++ x) := (hs _).mpr ((bes_sp hp hT).mpr ⟨x, rx, by rw [e]⟩)
    have z := rest_in hp0 h this
    rw [rest_low hp0 h.rw rx] at z
    have e2 : zr (w + T.length) = zr w ++ zr T.length := by unfold zr; rw [List.replicate_append_replicate]
    rw [e2] at z
    exact sp_of_rest hp0 hk.rw rx (app_inj rfl z).2
theorem abv_red {n : Nat} {W : List Row} (h : Red p (w + n) W) : Red p w (abv w W) := by
  have hl : ∀ r ∈ W, up w r = true → ld r < w ∧ ld (r.take w) = ld r := fun r hr c => by
    have hlen := (h.rw r hr).len
    have lw := (up_iff hlen).mp c
    refine ⟨lw, ld_is (by rw [at_take r lw]; exact ld_at (by omega)) fun j hj => by rw [at_take r (by omega)]; exact ld_before hj⟩
  refine ⟨fun s hs => ?_, fun s hs => ?_, ?_⟩
  · obtain ⟨r, hr, rfl⟩ := List.mem_map.mp hs
    have hr' := (List.mem_filter.mp hr).1
    refine ⟨by rw [List.length_take, (h.rw r hr').len]; omega, fun x hx => (h.rw r hr').res x (List.mem_of_mem_take hx)⟩
  · obtain ⟨r, hr, rfl⟩ := List.mem_map.mp hs
    obtain ⟨h1, h2⟩ := List.mem_filter.mp hr
    obtain ⟨l1, l2⟩ := hl r h1 h2
    rw [l2, at_take r l1]
    exact h.one r h1
  · unfold abv
    rw [List.pairwise_map]
    refine (h.srt.filter _).imp_of_mem fun {r s} hr hs ⟨q1, q2⟩ => ?_
    obtain ⟨h1, h2⟩ := List.mem_filter.mp hr
    obtain ⟨h3, h4⟩ := List.mem_filter.mp hs
    obtain ⟨l1, l2⟩ := hl r h1 h2
    obtain ⟨l3, l4⟩ := hl s h3 h4
    rw [l2, l4, at_take r l3]
    exact ⟨q1, q2⟩
theorem take_ad {n : Nat} {a b : Row} (ha : a.length = w + n) (hb : b.length = w + n) (f : Int) : (ad p a b f).take w = ad p (a.take w) (b.take w) f := by
  unfold ad
  rw [List.take_zipWith]
/-- the image -/
theorem abv_sp (hp : 1 < p) {T W : List Row} (hT : Rws p w T) (h : Red p (w + T.length) W) (hs : ∀ u, Sp p (w + T.length) W u ↔ Sp p (w + T.length) (bes T.length 0 T) u) {u : Row} : Sp p w (abv w W) u ↔ Sp p w T u := by
  have hp0 : 0 < p := by omega
  have ha := abv_red h
  constructor
  · refine Sp.sub hp0 hT fun s hs' => ?_
    obtain ⟨r, hr, rfl⟩ := List.mem_map.mp hs'
    have := (hs r).mp (Sp.mem hp0 h.rw (List.mem_filter.mp hr).1)
    obtain ⟨x, hx, e⟩ := (bes_sp hp hT).mp this
    have : r.take w = cmb p w T x := by
      rw [e, List.take_append_of_le_length (by rw [cmb_len]; exact Nat.le_refl _), List.take_of_length_le (by rw [cmb_len]; exact Nat.le_refl _)]
    rw [this]
    exact cmb_sp hp0 hT x hx.len
  · intro hu
    obtain ⟨x, hx, rfl⟩ := sp_cmb hp hT hu
    have hw := (hs _).mpr ((bes_sp hp hT).mpr ⟨x, hx, rfl⟩)
    have := Sp.map (w := w) (fun r => r.take w) hp0 h.rw (by
      show (zr (w + T.length)).take w = zr w
      unfold zr
      rw [List.take_replicate]
      congr 1
      omega) (fun v r f hv hr => take_ad hv.len hr.len f) hw
    rw [List.take_append_of_le_length (by rw [cmb_len]; exact Nat.le_refl _), List.take_of_length_le (by rw [cmb_len]; exact Nat.le_refl _)] at this
    refine Sp.sub hp0 ha.rw (fun s hs' => ?_) this
    obtain ⟨r, hr, rfl⟩ := List.mem_map.mp hs'
    cases c : up w r with
    | true => exact Sp.mem hp0 ha.rw (List.mem_map.mpr ⟨r, List.mem_filter.mpr ⟨hr, c⟩, rfl⟩)
    | false =>
      rw [take_low (h.rw r hr).len ((up_no (h.rw r hr).len).mp c)]
      exact .zero
theorem parts_len (w : Nat) (W : List Row) : (abv w W).length + (ker w W).length = W.length := by
  unfold abv ker
  rw [List.length_map, List.length_map]
  induction W with
  | nil => rfl
  | cons r W ih =>
    rw [List.filter_cons, List.filter_cons]
    cases up w r <;> simp <;> omega
end
end Li
-- Li5
/-! sums and meets of spaces -/
namespace Li
section
variable {p : Int} {w : Nat}
theorem Rws.app {A B : List Row} (hA : Rws p w A) (hB : Rws p w B) : Rws p w (A ++ B) := fun r hr => by
  rcases List.mem_append.mp hr with e | e
  · exact hA r e
  · exact hB r e
theorem sp_app_congr (hp : 0 < p) {A A' B B' : List Row} (hA' : Rws p w A') (hB' : Rws p w B') (h1 : ∀ r ∈ A, Sp p w A' r) (h2 : ∀ r ∈ B, Sp p w B' r) {u : Row} (h : Sp p w (A ++ B) u) : Sp p w (A' ++ B') u :=
  Sp.sub hp (hA'.app hB') (fun r hr => by
    rcases List.mem_append.mp hr with e | e
    · exact Sp.mono (fun s hs => List.mem_append_left _ hs) (h1 r e)
    · exact Sp.mono (fun s hs => List.mem_append_right _ hs) (h2 r e)) h
/-- what two span together -/
theorem sp_sum (hp : 0 < p) {A B : List Row} (hA : Rws p w A) (hB : Rws p w B) {u : Row} : Sp p w (A ++ B) u ↔ ∃ a b, Sp p w A a ∧ Sp p w B b ∧ u = ad p a b 1 := by
  constructor
  · intro h
    induction h with
    | zero => exact ⟨zr w, zr w, .zero, .zero, (ad_zr hp (Rw.zr hp w) 1).symm⟩
    | @add v r f hv hr ih =>
      obtain ⟨a, b, ha, hb, rfl⟩ := ih
      have la := (ha.rw hp hA).len
      have lb := (hb.rw hp hB).len
      rcases List.mem_append.mp hr with e | e
      · refine ⟨ad p a r f, b, .add f ha e, hb, ?_⟩
        exact ad_comm la lb (hA r e).len 1 f
      · refine ⟨a, ad p b r f, ha, .add f hb e, ?_⟩
        rw [ad_ad la lb (hB r e).len, Int.one_mul]
  · rintro ⟨a, b, ha, hb, rfl⟩
    exact (Sp.mono (fun s hs => List.mem_append_left _ hs) ha).ad hp (hA.app hB) (Sp.mono (fun s hs => List.mem_append_right _ hs) hb) 1
/-- a sum less the one is the other -/
theorem ad_back (hp : 0 < p) {a b : Row} (ha : Rw p w a) (hb : Rw p w b) : ad p (ad p a b 1) a (-1) = b := by
  have l := ha.len.trans hb.len.symm
  have l2 := ad_len (p := p) l 1
  have l3 := ad_len (p := p) (a := ad p a b 1) (b := a) (by omega) (-1)
  refine ext (by omega) fun i => ?_
  rw [at_ad (by omega), at_ad l, m1]
  have : at_ a i + 1 * at_ b i + -1 * at_ a i = at_ b i := by omega
  rw [this, hb.mod hp]
def neg (p : Int) (w : Nat) (a : Row) : Row := ad p (zr w) a (-1)
theorem neg_back (hp : 0 < p) {a b : Row} (ha : Rw p w a) (hb : Rw p w b) (h : ad p a b 1 = zr w) : a = neg p w b := by
  have l := ha.len.trans hb.len.symm
  have lz : (zr w).length = w := List.length_replicate
  refine ext (by unfold neg; rw [ad_len] <;> rw [lz]; exact ha.len; exact hb.len.symm) fun i => ?_
  unfold neg
  rw [at_ad (by rw [lz, hb.len]), at_zr]
  have z : at_ (ad p a b 1) i = 0 := by rw [h]; exact at_zr w i
  rw [at_ad l] at z
  have e : at_ a i % p = (-1 * at_ b i) % p := Int.emod_eq_emod_iff_emod_sub_eq_zero.mpr (by
    have : at_ a i - -1 * at_ b i = at_ a i + 1 * at_ b i := by omega
    rw [this]; exact z)
  rw [ha.mod hp] at e
  rw [e, Int.zero_add]
/-- independence by leads -/
theorem red_indep (hp : 1 < p) : ∀ {B : List Row}, Red p w B → ∀ {x : Row}, Rw p B.length x → cmb p w B x = zr w → x = zr B.length := by
  intro B h x hx e
  refine ext (hx.len.trans List.length_replicate.symm) fun i => ?_
  rw [at_zr]
  by_cases c : i < B.length
  · have z : at_ (cmb p w B x) (ld B[i]) = 0 := by rw [e]; exact at_zr w _
    rw [at_cmb h.rw.lens] at z
    have e2 : B.map (at_ · (ld B[i])) = unit B.length i := by
      refine ext (by rw [List.length_map, unit_len]) fun j => ?_
      rw [unit_at]
      conv => lhs; unfold at_
      rw [List.getD_eq_getElem?_getD, List.getElem?_map]
      by_cases cj : j < B.length
      · rw [List.getElem?_eq_getElem cj]
        show at_ B[j] (ld B[i]) = _
        by_cases ij : i = j
        · subst ij
          rw [if_pos ⟨rfl, c⟩]
          exact h.one _ (List.getElem_mem c)
        · rw [if_neg (fun q => ij q.1)]
          refine h.off (List.getElem_mem cj) (List.getElem_mem c) fun q => ?_
          have hlt := h.lt
          rcases Nat.lt_or_gt_of_ne ij with a | a
          · have := List.pairwise_iff_getElem.mp hlt i j c cj a
            omega
          · have := List.pairwise_iff_getElem.mp hlt j i cj c a
            omega
      · rw [List.getElem?_eq_none (by omega), if_neg (by omega)]
        rfl
    have sym : ∀ (x y : Row), dot x y = dot y x := fun x => by
      induction x with
      | nil => intro y; cases y <;> rfl
      | cons a x ih => intro y; cases y with
        | nil => rfl
        | cons b y => unfold dot; rw [ih y, Int.mul_comm]
    rw [e2, sym, dot_unit _ _ _ hx.len, hx.mod (by omega)] at z
    exact z
  · exact at_out (by rw [hx.len]; omega)
/-- rows, none of which is spanned by those ahead: as many -/
theorem fold_len (hp : 1 < p) {iv : Int → Int} (hi : Inv p iv) : ∀ {rows B : List Row}, Rws p w rows → Red p w B → (∀ pre v post, rows = pre ++ v :: post → ¬ Sp p w (B ++ pre) v) → (rows.foldl (wr p iv) B).length = B.length + rows.length
  | [], B, _, _, _ => rfl
  | v :: rows, B, hr, h, ind => by
    have hp0 : 0 < p := by omega
    have hv := hr v (List.mem_cons_self ..)
    have W := wr_ok hp hi h hv
    have hr' : Rws p w rows := fun s hs => hr s (List.mem_cons_of_mem _ hs)
    have nv := ind [] v rows rfl
    rw [List.append_nil] at nv
    have l := W.len
    rw [if_neg fun e => nv (sp_of_rest hp0 h.rw hv e)] at l
    show (rows.foldl (wr p iv) (wr p iv B v)).length = _
    rw [fold_len hp hi hr' W.red fun pre u post e hu => ?_]
    · rw [l, List.length_cons]; omega
    · refine ind (v :: pre) u post (by rw [e]; rfl) ?_
      have hvB : Rws p w (v :: B) := fun r hr => by
        rcases List.mem_cons.mp hr with e | e
        · rw [e]; exact hv
        · exact h.rw r e
      have hpre : Rws p w pre := fun s hs => hr' s (by rw [e]; exact List.mem_append_left _ hs)
      have := sp_app_congr hp0 hvB hpre (fun r hr => (W.sp r).mp (Sp.mem hp0 W.red.rw hr)) (fun r hr => Sp.mem hp0 hpre hr) hu
      refine Sp.mono (fun s hs => ?_) this
      simp only [List.mem_append, List.mem_cons] at hs ⊢
      rcases hs with (a | a) | a
      · exact .inr (.inl a)
      · exact .inl a
      · exact .inr (.inr a)
theorem redd_len (hp : 1 < p) {iv : Int → Int} (hi : Inv p iv) {rows : List Row} (hr : Rws p w rows) (ind : ∀ pre v post, rows = pre ++ v :: post → ¬ Sp p w pre v) : (redd p iv rows).length = rows.length := by
  have := fold_len hp hi hr red_nil (fun pre v post e => by rw [List.nil_append]; exact ind pre v post e)
  rw [List.length_nil, Nat.zero_add] at this
  exact this
theorem bes_split (n : Nat) : ∀ (i : Nat) (T pre : List Row) (v : Row) (post : List Row), bes n i T = pre ++ v :: post → (∀ r ∈ T, r.length = w) → i + T.length ≤ n → (∀ r ∈ pre, ∀ k, i + pre.length ≤ k → at_ r (w + k) = 0) ∧ at_ v (w + (i + pre.length)) = 1
  | i, [], pre, v, post, e, _, _ => by
    have : ([] : List Row) = pre ++ v :: post := e
    cases pre <;> cases this
  | i, r :: T, [], v, post, e, h, hn => by
    have e : (r ++ unit n i) :: bes n (i + 1) T = v :: post := e
    cases e
    refine ⟨fun _ h => (by cases h), ?_⟩
    have hr := h r (List.mem_cons_self ..)
    simp only [List.length_cons] at hn
    rw [← hr, at_appr, unit_at, if_pos ⟨by simp, by omega⟩]
  | i, r :: T, q :: pre, v, post, e, h, hn => by
    have e : (r ++ unit n i) :: bes n (i + 1) T = q :: (pre ++ v :: post) := e
    obtain ⟨e1, e2⟩ := List.cons.inj e
    have hr := h r (List.mem_cons_self ..)
    simp only [List.length_cons] at hn
    obtain ⟨z1, z2⟩ := bes_split n (i + 1) T pre v post e2 (fun s hs => h s (List.mem_cons_of_mem _ hs)) (by omega)
    have e3 : i + 1 + pre.length = i + (q :: pre).length := by simp; omega
    rw [e3] at z1 z2
    refine ⟨fun s hs k hk => ?_, z2⟩
    rcases List.mem_cons.mp hs with a | a
    · rw [a, ← e1, ← hr, at_appr, unit_at, if_neg]
      simp only [List.length_cons] at hk
      omega
    · exact z1 s a k hk
theorem bes_redd_len (hp : 1 < p) {iv : Int → Int} (hi : Inv p iv) {T : List Row} (hT : Rws p w T) : (redd p iv (bes T.length 0 T)).length = T.length := by
  have hp0 : 0 < p := by omega
  have hb := bes_rw (w := w) hp T.length 0 hT
  rw [redd_len hp hi hb, bes_len]
  intro pre v post e hs
  obtain ⟨z1, z2⟩ := bes_split T.length 0 T pre v post e hT.lens (by omega)
  have hpre : Rws p (w + T.length) pre := fun s h => hb s (by rw [e]; exact List.mem_append_left _ h)
  have := Sp.coord hp0 hpre (fun r hr => z1 r hr _ (Nat.le_refl _)) hs
  rw [z2] at this
  cases this
/-! the package's meet -/
def beside (T : List Row) : List Row := bes T.length 0 T
def kern (p : Int) (iv : Int → Int) (w : Nat) (T : List Row) : List Row := ker w (redd p iv (beside T))
def ssum (p : Int) (iv : Int → Int) (A B : List Row) : List Row := redd p iv (A ++ B)
def smeet (p : Int) (iv : Int → Int) (w : Nat) (A B : List Row) : List Row := redd p iv ((kern p iv w (A ++ B)).map fun x => cmb p w A (x.take A.length))
section
variable {iv : Int → Int} {A B : List Row}
theorem kern_red (hp : 1 < p) (hi : Inv p iv) {T : List Row} (hT : Rws p w T) : Red p T.length (kern p iv w T) :=
  ker_red (redd_ok hp hi (bes_rw hp T.length 0 hT)).1
theorem kern_sp (hp : 1 < p) (hi : Inv p iv) {T : List Row} (hT : Rws p w T) {x : Row} : Sp p T.length (kern p iv w T) x ↔ Rw p T.length x ∧ cmb p w T x = zr w :=
  let ⟨h1, h2⟩ := redd_ok hp hi (bes_rw (w := w) hp T.length 0 hT)
  ker_sp hp hT h1 h2
theorem phi0 (hA : Rws p w A) (n : Nat) (hn : A.length ≤ n) : cmb p w A ((zr n).take A.length) = zr w := by
  have : (zr n).take A.length = zr A.length := by
    unfold zr
    rw [List.take_replicate]
    congr 1
    omega
  rw [this]
  exact cmb_zr hA.lens _
theorem phia (hA : Rws p w A) {n : Nat} (v r : Row) (f : Int) (hv : Rw p n v) (hr : Rw p n r) : cmb p w A ((ad p v r f).take A.length) = ad p (cmb p w A (v.take A.length)) (cmb p w A (r.take A.length)) f := by
  rw [← cmb_ad hA.lens (by rw [List.length_take, List.length_take, hv.len, hr.len])]
  unfold ad
  rw [List.take_zipWith]
theorem Rw.take {n k : Nat} {x : Row} (h : Rw p n x) (hk : k ≤ n) : Rw p k (x.take k) := ⟨by rw [List.length_take, h.len]; omega, fun y hy => h.res y (List.mem_of_mem_take hy)⟩
theorem Rw.drop {n k : Nat} {x : Row} (h : Rw p (k + n) x) : Rw p n (x.drop k) := ⟨by rw [List.length_drop, h.len]; omega, fun y hy => h.res y (List.mem_of_mem_drop hy)⟩
theorem kern_parts (hp : 1 < p) (hA : Rws p w A) (hB : Rws p w B) {x : Row} (hx : Rw p (A ++ B).length x) : cmb p w (A ++ B) x = ad p (cmb p w A (x.take A.length)) (cmb p w B (x.drop A.length)) 1 := by
  have : x = x.take A.length ++ x.drop A.length := (List.take_append_drop _ _).symm
  conv => lhs; rw [this]
  exact cmb_app (by omega) hA.lens hB.lens (by rw [List.length_take, hx.len, List.length_append]; omega)
theorem gen_rws (hp : 1 < p) (K : List Row) : Rws p w (K.map fun x => cmb p w A (x.take A.length)) := fun s hs => by
  obtain ⟨x, _, rfl⟩ := List.mem_map.mp hs
  exact cmb_rw (by omega) _ _
theorem ssum_ok (hp : 1 < p) (hi : Inv p iv) (hA : Rws p w A) (hB : Rws p w B) : Red p w (ssum p iv A B) ∧ ∀ u, Sp p w (ssum p iv A B) u ↔ Sp p w (A ++ B) u := redd_ok hp hi (hA.app hB)
theorem smeet_ok (hp : 1 < p) (hi : Inv p iv) (hA : Rws p w A) (hB : Rws p w B) : Red p w (smeet p iv w A B) ∧ ∀ u, Sp p w (smeet p iv w A B) u ↔ Sp p w A u ∧ Sp p w B u := by
  have hp0 : 0 < p := by omega
  have hT := hA.app hB
  have hK := kern_red hp hi hT
  obtain ⟨h1, h2⟩ := redd_ok hp hi (gen_rws (w := w) (A := A) hp (kern p iv w (A ++ B)))
  refine ⟨h1, fun u => (h2 u).trans ⟨fun hu => ⟨Sp.sub hp0 hA (fun s hs => ?_) hu, Sp.sub hp0 hB (fun s hs => ?_) hu⟩, fun ⟨ha, hb⟩ => ?_⟩⟩
  · obtain ⟨x, hx, rfl⟩ := List.mem_map.mp hs
    have rx := hK.rw x hx
    exact cmb_sp hp0 hA _ (by rw [List.length_take, rx.len, List.length_append]; omega)
  · obtain ⟨x, hx, rfl⟩ := List.mem_map.mp hs
    obtain ⟨rx, z⟩ := (kern_sp hp hi hT).mp (Sp.mem hp0 hK.rw hx)
    rw [kern_parts hp hA hB rx] at z
    have e := neg_back hp0 (cmb_rw hp0 _ _) (cmb_rw hp0 _ _) z
    rw [e]
    unfold neg
    exact Sp.zero.ad hp0 hB (cmb_sp hp0 hB _ (by rw [List.length_drop, rx.len, List.length_append]; omega)) _
  · obtain ⟨x, hx, ex⟩ := sp_cmb hp hA ha
    obtain ⟨y, hy, ey⟩ := sp_cmb hp hB hb
    have hy2 : Rw p B.length (neg p B.length y) := (Rw.zr hp0 _).ad hp0 hy.len _
    have hz : Rw p (A ++ B).length (x ++ neg p B.length y) := by
      rw [List.length_append]
      exact hx.app hy2
    have ru : Rw p w u := ha.rw hp0 hA
    have ez : cmb p w (A ++ B) (x ++ neg p B.length y) = zr w := by
      rw [cmb_app hp0 hA.lens hB.lens hx.len, ← ex]
      unfold neg
      rw [cmb_ad hB.lens (by rw [hy.len]; exact List.length_replicate), cmb_zr hB.lens, ← ey, ad_ad (v := zr w) ru.len List.length_replicate ru.len, ad_zr hp0 ru, Int.one_mul, ad_self, ru.len]
    have zK := (kern_sp hp hi hT).mpr ⟨hz, ez⟩
    have := Sp.map (w := w) (fun x => cmb p w A (x.take A.length)) hp0 hK.rw (phi0 hA _ (by rw [List.length_append]; omega)) (fun v r f hv hr => phia hA v r f hv hr) zK
    rw [List.take_append_of_le_length (by rw [hx.len]; exact Nat.le_refl _), List.take_of_length_le (by rw [hx.len]; exact Nat.le_refl _), ← ex] at this
    exact this
/-- sizes -/
theorem sizes (hp : 1 < p) (hi : Inv p iv) (hA : Red p w A) (hB : Red p w B) : (ssum p iv A B).length + (smeet p iv w A B).length = A.length + B.length := by
  have hp0 : 0 < p := by omega
  have hT := hA.rw.app hB.rw
  have hK := kern_red hp hi hT
  obtain ⟨w1, w2⟩ := redd_ok hp hi (bes_rw (w := w) hp (A ++ B).length 0 hT)
  have e1 : ssum p iv A B = abv w (redd p iv (beside (A ++ B))) := by
    obtain ⟨s1, s2⟩ := ssum_ok hp hi hA.rw hB.rw
    exact red_eq hp0 s1 (abv_red w1) fun v => (s2 v).trans (abv_sp hp hT w1 w2).symm
  have e2 : (smeet p iv w A B).length = (kern p iv w (A ++ B)).length := by
    unfold smeet
    rw [redd_len hp hi (gen_rws hp _), List.length_map]
    intro pre u post e hs
    obtain ⟨pre', rest', e3, rfl, e4⟩ := List.map_eq_append_iff.mp e
    obtain ⟨k, post', rfl, rfl, rfl⟩ := List.map_eq_cons_iff.mp e4
    have hpre : Rws p (A ++ B).length pre' := fun s h => hK.rw s (by rw [e3]; exact List.mem_append_left _ h)
    have hk : k ∈ kern p iv w (A ++ B) := by rw [e3]; exact List.mem_append_right _ (List.mem_cons_self ..)
    have rk := hK.rw k hk
    obtain ⟨z, hz, ez⟩ := Sp.unmap (fun x => cmb p w A (x.take A.length)) hp0 hpre (phi0 hA.rw _ (by rw [List.length_append]; omega)) (fun v r f hv hr => phia hA.rw v r f hv hr) hs
    have rz := hz.rw hp0 hpre
    have zK : Sp p (A ++ B).length (kern p iv w (A ++ B)) z := Sp.mono (fun s h => by rw [e3]; exact List.mem_append_left _ h) hz
    have dK := (Sp.mem hp0 hK.rw hk).ad hp0 hK.rw zK (-1)
    obtain ⟨rd, zd⟩ := (kern_sp hp hi hT).mp dK
    rw [kern_parts hp hA.rw hB.rw rd] at zd
    have lA : A.length ≤ (A ++ B).length := by rw [List.length_append]; omega
    have f0 : cmb p w A ((ad p k z (-1)).take A.length) = zr w := by
      rw [phia hA.rw k z (-1) rk rz]
      rw [ez, ad_self, cmb_len]
    rw [f0] at zd
    have rb : Rw p w (cmb p w B ((ad p k z (-1)).drop A.length)) := cmb_rw hp0 _ _
    rw [zr_ad hp0 rb] at zd
    have q1 := red_indep hp hA (rd.take lA) f0
    have q2 := red_indep hp hB (Rw.drop (n := B.length) (k := A.length) (by rw [← List.length_append]; exact rd)) zd
    have d0 : ad p k z (-1) = zr (A ++ B).length := by
      rw [← List.take_append_drop A.length (ad p k z (-1)), q1, q2]
      unfold zr
      rw [List.replicate_append_replicate, List.length_append]
    have ekz := sub_zero hp0 rk rz d0
    rw [← ekz] at hz
    -- k is not spanned by the lines ahead
    have c := Sp.coord hp0 hpre (i := ld k) (fun r hr => by
      have hs := hK.srt
      rw [e3] at hs
      exact ((List.pairwise_append.mp hs).2.2 r hr k (List.mem_cons_self ..)).2) hz
    rw [hK.one k hk] at c
    cases c
  have e3 := parts_len w (redd p iv (beside (A ++ B)))
  have e4 : (redd p iv (beside (A ++ B))).length = (A ++ B).length := bes_redd_len hp hi hT
  rw [e1, e2]
  unfold kern
  rw [e3, e4, List.length_append]
/-! laws -/
variable {C : List Row}
theorem ssum_comm (hp : 1 < p) (hi : Inv p iv) (hA : Rws p w A) (hB : Rws p w B) : ssum p iv B A = ssum p iv A B := by
  obtain ⟨a1, a2⟩ := ssum_ok hp hi hA hB
  obtain ⟨b1, b2⟩ := ssum_ok hp hi hB hA
  exact red_eq (by omega) b1 a1 fun v => (b2 v).trans ((Sp.congr fun r => by simp only [List.mem_append]; exact Or.comm).trans (a2 v).symm)
theorem smeet_comm (hp : 1 < p) (hi : Inv p iv) (hA : Rws p w A) (hB : Rws p w B) : smeet p iv w B A = smeet p iv w A B := by
  obtain ⟨a1, a2⟩ := smeet_ok hp hi hA hB
  obtain ⟨b1, b2⟩ := smeet_ok hp hi hB hA
  exact red_eq (by omega) b1 a1 fun v => (b2 v).trans (And.comm.trans (a2 v).symm)
theorem ssum_assoc (hp : 1 < p) (hi : Inv p iv) (hA : Rws p w A) (hB : Rws p w B) (hC : Rws p w C) : ssum p iv (ssum p iv A B) C = ssum p iv A (ssum p iv B C) := by
  have hp0 : 0 < p := by omega
  obtain ⟨a1, a2⟩ := ssum_ok hp hi hA hB
  obtain ⟨b1, b2⟩ := ssum_ok hp hi hB hC
  obtain ⟨l1, l2⟩ := ssum_ok hp hi a1.rw hC
  obtain ⟨r1, r2⟩ := ssum_ok hp hi hA b1.rw
  have hABC : Rws p w (A ++ B ++ C) := (hA.app hB).app hC
  have el : ∀ v, Sp p w (ssum p iv A B ++ C) v ↔ Sp p w (A ++ B ++ C) v := fun v =>
    ⟨sp_app_congr hp0 (hA.app hB) hC (fun r hr => (a2 r).mp (Sp.mem hp0 a1.rw hr)) (fun r hr => Sp.mem hp0 hC hr), sp_app_congr hp0 a1.rw hC (fun r hr => (a2 r).mpr (Sp.mem hp0 (hA.app hB) hr)) (fun r hr => Sp.mem hp0 hC hr)⟩
  have er : ∀ v, Sp p w (A ++ ssum p iv B C) v ↔ Sp p w (A ++ (B ++ C)) v := fun v =>
    ⟨sp_app_congr hp0 hA (hB.app hC) (fun r hr => Sp.mem hp0 hA hr) (fun r hr => (b2 r).mp (Sp.mem hp0 b1.rw hr)), sp_app_congr hp0 hA b1.rw (fun r hr => Sp.mem hp0 hA hr) (fun r hr => (b2 r).mpr (Sp.mem hp0 (hB.app hC) hr))⟩
  refine red_eq hp0 l1 r1 fun v => (l2 v).trans ((el v).trans ?_)
  rw [List.append_assoc]
  exact ((r2 v).trans (er v)).symm
theorem smeet_assoc (hp : 1 < p) (hi : Inv p iv) (hA : Rws p w A) (hB : Rws p w B) (hC : Rws p w C) : smeet p iv w (smeet p iv w A B) C = smeet p iv w A (smeet p iv w B C) := by
  obtain ⟨a1, a2⟩ := smeet_ok hp hi hA hB
  obtain ⟨b1, b2⟩ := smeet_ok hp hi hB hC
  obtain ⟨l1, l2⟩ := smeet_ok hp hi a1.rw hC
  obtain ⟨r1, r2⟩ := smeet_ok hp hi hA b1.rw
  refine red_eq (by omega) l1 r1 fun v => ?_
  rw [l2, a2, r2, b2]
  exact and_assoc
theorem modular (hp : 1 < p) (hi : Inv p iv) (hA : Rws p w A) (hB : Rws p w B) (hC : Rws p w C) :
    ssum p iv (smeet p iv w A B) (smeet p iv w A C) = smeet p iv w A (ssum p iv B (smeet p iv w A C)) := by
  have hp0 : 0 < p := by omega
  obtain ⟨a1, a2⟩ := smeet_ok hp hi hA hB
  obtain ⟨b1, b2⟩ := smeet_ok hp hi hA hC
  obtain ⟨c1, c2⟩ := ssum_ok hp hi hB b1.rw
  obtain ⟨l1, l2⟩ := ssum_ok hp hi a1.rw b1.rw
  obtain ⟨r1, r2⟩ := smeet_ok hp hi hA c1.rw
  refine red_eq hp0 l1 r1 fun v => ?_
  rw [l2, r2, c2, sp_sum hp0 a1.rw b1.rw, sp_sum hp0 hB b1.rw]
  constructor
  · rintro ⟨a, b, ha, hb, rfl⟩
    obtain ⟨ha1, ha2⟩ := (a2 a).mp ha
    exact ⟨ha1.ad hp0 hA ((b2 b).mp hb).1 1, a, b, ha2, hb, rfl⟩
  · rintro ⟨hv, a, b, ha, hb, rfl⟩
    refine ⟨a, b, (a2 a).mpr ⟨?_, ha⟩, hb, rfl⟩
    have ra := ha.rw hp0 hB
    have rb := hb.rw hp0 b1.rw
    have e : ad p a b 1 = ad p b a 1 := by
      have l := ra.len.trans rb.len.symm
      refine ext (by rw [ad_len, ad_len] <;> omega) fun i => ?_
      rw [at_ad l, at_ad l.symm]
      congr 1
      omega
    have := hv.ad hp0 hA ((b2 b).mp hb).1 (-1)
    rw [e, ad_back hp0 rb ra] at this
    exact this
theorem ssum_nil (hp : 1 < p) (hi : Inv p iv) (hA : Red p w A) : ssum p iv A [] = A := by
  unfold ssum
  rw [List.append_nil]
  exact redd_self hp hi hA
theorem smeet_self (hp : 1 < p) (hi : Inv p iv) (hA : Red p w A) : smeet p iv w A A = A := by
  obtain ⟨a1, a2⟩ := smeet_ok hp hi hA.rw hA.rw
  exact red_eq (by omega) a1 hA fun v => (a2 v).trans (and_self_iff)
theorem smeet_nil (hp : 1 < p) (hi : Inv p iv) (hA : Red p w A) : smeet p iv w A [] = [] := by
  obtain ⟨a1, a2⟩ := smeet_ok hp hi hA.rw red_nil.rw
  refine red_eq (by omega) a1 red_nil fun v => (a2 v).trans ⟨And.right, fun h => ⟨?_, h⟩⟩
  cases h with
  | zero => exact .zero
  | add f _ hr => cases hr
end
end
end Li
-- Li6
/-! primes to 7 -/
namespace Li
def UN (p : Int) : List Int := if p = 2 then [0, 1] else if p = 3 then [0, 1, 2] else if p = 5 then [0, 1, 3, 2, 4] else [0, 1, 4, 5, 2, 3, 6]
def iv (p x : Int) : Int := (UN p).getD x.toNat 0
def Pr (p : Int) : Prop := p = 2 ∨ p = 3 ∨ p = 5 ∨ p = 7
theorem Pr.pos {p : Int} (h : Pr p) : 1 < p ∧ p ≤ 7 := by unfold Pr at h; omega
theorem iv_cases {Q : Int → Int → Prop} (h2 : Q 2 1) (h31 : Q 3 1) (h32 : Q 3 2) (h51 : Q 5 1) (h52 : Q 5 2) (h53 : Q 5 3) (h54 : Q 5 4) (h71 : Q 7 1) (h72 : Q 7 2) (h73 : Q 7 3) (h74 : Q 7 4) (h75 : Q 7 5) (h76 : Q 7 6) {p x : Int} (hp : Pr p) (h0 : 0 < x) (h1 : x < p) : Q p x := by
  rcases hp with rfl | rfl | rfl | rfl
  · have : x = 1 := by omega
    subst this; exact h2
  · have : x = 1 ∨ x = 2 := by omega
    rcases this with rfl | rfl
    · exact h31
    · exact h32
  · have : x = 1 ∨ x = 2 ∨ x = 3 ∨ x = 4 := by omega
    rcases this with rfl | rfl | rfl | rfl
    · exact h51
    · exact h52
    · exact h53
    · exact h54
  · have : x = 1 ∨ x = 2 ∨ x = 3 ∨ x = 4 ∨ x = 5 ∨ x = 6 := by omega
    rcases this with rfl | rfl | rfl | rfl | rfl | rfl
    · exact h71
    · exact h72
    · exact h73
    · exact h74
    · exact h75
    · exact h76
theorem inv_iv {p : Int} (hp : Pr p) : Inv p (iv p) := fun x h0 h1 =>
  iv_cases (Q := fun p x => iv p x * x % p = 1) (by decide) (by decide) (by decide) (by decide) (by decide) (by decide) (by decide) (by decide) (by decide) (by decide) (by decide) (by decide) (by decide) hp h0 h1
theorem iv_get {p x : Int} (hp : Pr p) (h0 : 0 < x) (h1 : x < p) : (UN p)[x.toNat]? = some (iv p x) ∧ x.toNat < (UN p).length ∧ (iv p x).natAbs < 10 :=
  iv_cases (Q := fun p x => (UN p)[x.toNat]? = some (iv p x) ∧ x.toNat < (UN p).length ∧ (iv p x).natAbs < 10) (by decide) (by decide) (by decide) (by decide) (by decide) (by decide) (by decide) (by decide) (by decide) (by decide) (by decide) (by decide) (by decide) hp h0 h1
theorem iv_first {p x : Int} (hp : Pr p) (h0 : 0 < x) (h1 : x < p) : (((List.range (p.toNat - 1)).map fun (i : Nat) => (1 : Int) + i).filter fun y => decide (y * x % p = 1)) = [iv p x] :=
  iv_cases (Q := fun p x => (((List.range (p.toNat - 1)).map fun (i : Nat) => (1 : Int) + i).filter fun y => decide (y * x % p = 1)) = [iv p x]) (by decide) (by decide) (by decide) (by decide) (by decide) (by decide) (by decide) (by decide) (by decide) (by decide) (by decide) (by decide) (by decide) hp h0 h1
end Li
-- Li7
namespace Li
section
variable {p : Int} {w : Nat}
theorem base_key (hp : 1 < p) {iv : Int → Int} (hi : Inv p iv) {rows : List Row} (hr : Rws p w rows) : ∀ n, n ≤ w → BOk p w rows n ((List.range n).foldl (place p iv) (rows.filter pos, [])) := by
  have hp0 : 0 < p := by omega
  intro n
  induction n with
  | zero =>
    intro _
    have hf : Rws p w (rows.filter pos) := fun r h => hr r (List.mem_filter.mp h).1
    refine ⟨red_nil, fun _ h => (by cases h), hf, fun _ _ j h => (by omega), fun r h q => ?_, fun u => ⟨Sp.mono fun r h => ?_, Sp.sub hp0 (by exact fun r h => hf r (by simpa using h)) fun r h => ?_⟩⟩
    · have := (List.mem_filter.mp h).2
      rw [(pos_iff hp0 (hf r h)).mpr q] at this
      cases this
    · exact (List.mem_filter.mp (by simpa using h)).1
    · cases c : pos r with
      | true => exact Sp.mem hp0 (by exact fun r h => hf r (by simpa using h)) (by simpa using ⟨h, c⟩)
      | false => rw [(pos_iff hp0 (hr r h)).mp c]; exact .zero
  | succ n ih =>
    intro hn
    rw [List.range_succ, List.foldl_append]
    exact place_ok hp hi hr (by omega) (ih (by omega))
theorem place_len (p : Int) (iv : Int → Int) (st : List Row × List Row) (k : Nat) : (place p iv st k).1.length ≤ st.1.length := by
  unfold place
  split
  · exact Nat.le_refl _
  · dsimp only
    exact Nat.le_trans (List.length_filter_le ..) (by rw [List.length_map]; exact Nat.le_refl _)
theorem fold_place_len (p : Int) (iv : Int → Int) : ∀ (ks : List Nat) (st : List Row × List Row), (ks.foldl (place p iv) st).1.length ≤ st.1.length
  | [], st => Nat.le_refl _
  | k :: ks, st => Nat.le_trans (fold_place_len p iv ks (place p iv st k)) (place_len p iv st k)
/-- the law's own kernel and meet -/
def lnull (p : Int) (iv : Int → Int) (w : Nat) (T : List Row) : List Row :=
  base p iv (((base p iv (beside T) (w + T.length)).filter fun r => !pos (r.take w)).map (·.drop w)) T.length
def lmeet (p : Int) (iv : Int → Int) (w : Nat) (A B : List Row) : List Row :=
  base p iv ((lnull p iv w (A ++ B)).map fun x => (x.zip A).foldl (fun v q => ad p v q.2 q.1) (zr w)) w
theorem pos_up {n : Nat} {r : Row} (hp : 0 < p) (hr : Rw p (w + n) r) : pos (r.take w) = up w r := by
  have ht : Rw p w (r.take w) := hr.take (by omega)
  unfold pos up
  rw [Bool.eq_iff_iff, List.any_eq_true, List.any_eq_true]
  constructor
  · rintro ⟨x, hx, h⟩
    have := of_decide_eq_true h
    exact ⟨x, hx, by simpa using (show x ≠ 0 by omega)⟩
  · rintro ⟨x, hx, h⟩
    have := (ht.res x hx).1
    have h : x ≠ 0 := by simpa using h
    exact ⟨x, hx, decide_eq_true (by omega)⟩
theorem lnull_eq (hp : 1 < p) {iv : Int → Int} (hi : Inv p iv) {T : List Row} (hT : Rws p w T) : lnull p iv w T = kern p iv w T := by
  have hp0 : 0 < p := by omega
  have hb := bes_rw (w := w) hp T.length 0 hT
  have e : base p iv (beside T) (w + T.length) = redd p iv (beside T) := (base_redd hp hi hi hb hb fun u => Iff.rfl).symm
  have W := (redd_ok hp hi hb).1
  unfold lnull
  rw [e]
  have e2 : ((redd p iv (beside T)).filter fun r => !pos (r.take w)).map (·.drop w) = kern p iv w T := by
    unfold kern ker
    congr 1
    refine List.filter_congr fun r hr => ?_
    rw [pos_up hp0 (W.rw r hr)]
  rw [e2]
  exact base_self hp hi (kern_red hp hi hT)
theorem fold_cmb (hp : 0 < p) : ∀ {A : List Row}, Rws p w A → ∀ (x : Row), A.length ≤ x.length → ∀ {v : Row}, Rw p w v → (x.zip A).foldl (fun v q => ad p v q.2 q.1) v = ad p v (cmb p w A (x.take A.length)) 1
  | [], _, x, _, v, hv => by
    rw [List.zip_nil_right, cmb_nil, ad_zr hp hv]
    rfl
  | r :: A, h, [], hx, v, hv => by simp at hx
  | r :: A, h, a :: x, hx, v, hv => by
    have hr := h r (List.mem_cons_self ..)
    have hA : Rws p w A := fun s hs => h s (List.mem_cons_of_mem _ hs)
    rw [List.zip_cons_cons, List.foldl_cons]
    show (x.zip A).foldl (fun v q => ad p v q.2 q.1) (ad p v r a) = _
    rw [fold_cmb hp hA x (by simpa using hx) (hv.ad hp hr.len a), List.length_cons, List.take_succ_cons, cmb_cons hp h, ad_ad hv.len (cmb_len _ _) hr.len, Int.one_mul, ad_comm hv.len hr.len (cmb_len _ _)]
theorem lmeet_eq (hp : 1 < p) {iv : Int → Int} (hi : Inv p iv) {A B : List Row} (hA : Rws p w A) (hB : Rws p w B) : lmeet p iv w A B = smeet p iv w A B := by
  have hp0 : 0 < p := by omega
  have hT := hA.app hB
  have hK := kern_red hp hi hT
  unfold lmeet smeet
  rw [lnull_eq hp hi hT]
  have e : ((kern p iv w (A ++ B)).map fun x => (x.zip A).foldl (fun v q => ad p v q.2 q.1) (zr w)) = (kern p iv w (A ++ B)).map fun x => cmb p w A (x.take A.length) := by
    refine List.map_congr_left fun x hx => ?_
    rw [fold_cmb hp0 hA x (by rw [(hK.rw x hx).len, List.length_append]; omega) (Rw.zr hp0 w), zr_ad hp0 (cmb_rw hp0 _ _)]
  rw [e]
  exact (base_redd hp hi hi (gen_rws hp _) (gen_rws hp _) fun u => Iff.rfl).symm
end
end Li
-- Li8
/-! all sums of a base, each once; other rows with the same sums -/
namespace Li
section
variable {p : Int} {w : Nat}
def ext1 (p : Int) (F : List Row) (r : Row) : List Row := (List.range p.toNat).flatMap fun (c : Nat) => F.map fun v => ad p v r (c : Int)
def sumsF (p : Int) (w : Nat) (B : List Row) : List Row := B.foldl (ext1 p) [zr w]
theorem ad_inj (hp : 0 < p) {v v' r : Row} (h1 : Rw p w v) (h2 : Rw p w v') (h3 : r.length = w) {c : Int} (e : ad p v r c = ad p v' r c) : v = v' := by
  refine ext (h1.len.trans h2.len.symm) fun i => ?_
  have z : at_ (ad p v r c) i = at_ (ad p v' r c) i := by rw [e]
  rw [at_ad (h1.len.trans h3.symm), at_ad (h2.len.trans h3.symm)] at z
  have z2 := Int.emod_eq_emod_iff_emod_sub_eq_zero.mp z
  have e2 : at_ v i + c * at_ r i - (at_ v' i + c * at_ r i) = at_ v i - at_ v' i := by omega
  rw [e2] at z2
  have z3 := Int.emod_eq_emod_iff_emod_sub_eq_zero.mpr z2
  rw [h1.mod hp, h2.mod hp] at z3
  exact z3
theorem ext1_nodup (hp : 0 < p) {r : Row} (hr : r.length = w) (one : at_ r (ld r) = 1) : ∀ (F : List Row), F.Nodup → (∀ v ∈ F, Rw p w v ∧ at_ v (ld r) = 0) → (ext1 p F r).Nodup := by
  intro F nd hF
  unfold ext1
  have lead : ∀ v ∈ F, ∀ c : Nat, c < p.toNat → at_ (ad p v r (c : Int)) (ld r) = (c : Int) := fun v hv c hc => by
    rw [at_ad ((hF v hv).1.len.trans hr.symm), (hF v hv).2, one]
    have : (0 : Int) + (c : Int) * 1 = (c : Int) := by omega
    rw [this]
    exact Int.emod_eq_of_lt (by omega) (by omega)
  have key : ∀ n, n ≤ p.toNat → ((List.range n).flatMap fun (c : Nat) => F.map fun v => ad p v r (c : Int)).Nodup := by
    intro n
    induction n with
    | zero => intro _; exact List.nodup_nil
    | succ n ih =>
      intro hn
      rw [List.range_succ, List.flatMap_append]
      refine List.nodup_append.mpr ⟨ih (by omega), ?_, fun x hx y hy e => ?_⟩
      · simp only [List.flatMap_cons, List.flatMap_nil, List.append_nil]
        refine List.pairwise_map.mpr (nd.imp_of_mem fun {a b} ha hb ne e => ne ?_)
        exact ad_inj hp (hF a ha).1 (hF b hb).1 hr e
      · obtain ⟨c, hc, hx⟩ := List.mem_flatMap.mp hx
        obtain ⟨v, hv, rfl⟩ := List.mem_map.mp hx
        simp only [List.flatMap_cons, List.flatMap_nil, List.append_nil] at hy
        obtain ⟨v', hv', rfl⟩ := List.mem_map.mp hy
        have hc := List.mem_range.mp hc
        have z1 := lead v hv c (by omega)
        have z2 := lead v' hv' n (by omega)
        rw [e, z2] at z1
        omega
  exact key _ (Nat.le_refl _)
theorem ext1_len (F : List Row) (r : Row) : (ext1 p F r).length = p.toNat * F.length := by
  unfold ext1
  rw [List.length_flatMap]
  simp only [List.length_map, List.map_const', List.length_range, List.sum_replicate_nat]
/-- the sums of a base: each of them once, all of them spanned -/
theorem sums_ok (hp : 1 < p) {B : List Row} (h : Red p w B) : (sumsF p w B).Nodup ∧ (∀ v ∈ sumsF p w B, Sp p w B v) ∧ (sumsF p w B).length = p.toNat ^ B.length := by
  have hp0 : 0 < p := by omega
  have key : ∀ (C A : List Row) (F : List Row), B = A ++ C → F.Nodup → (∀ v ∈ F, Sp p w A v) → F.length = p.toNat ^ A.length → (C.foldl (ext1 p) F).Nodup ∧ (∀ v ∈ C.foldl (ext1 p) F, Sp p w B v) ∧ (C.foldl (ext1 p) F).length = p.toNat ^ B.length := by
    intro C
    induction C with
    | nil =>
      intro A F e nd hF hl
      rw [List.append_nil] at e
      rw [e]
      exact ⟨nd, hF, hl⟩
    | cons r C ih =>
      intro A F e nd hF hl
      have rB : r ∈ B := by rw [e]; exact List.mem_append_right _ (List.mem_cons_self ..)
      have rr := h.rw r rB
      have hA : Rws p w A := fun s hs => h.rw s (by rw [e]; exact List.mem_append_left _ hs)
      have pw := h.srt
      rw [e] at pw
      have zA : ∀ s ∈ A, at_ s (ld r) = 0 := fun s hs => ((List.pairwise_append.mp pw).2.2 s hs r (List.mem_cons_self ..)).2
      have hF2 : ∀ v ∈ F, Rw p w v ∧ at_ v (ld r) = 0 := fun v hv => ⟨(hF v hv).rw hp0 hA, Sp.coord hp0 hA zA (hF v hv)⟩
      refine ih (A ++ [r]) (ext1 p F r) (by rw [e]; simp) (ext1_nodup hp0 rr.len (h.one r rB) F nd hF2) (fun v hv => ?_) ?_
      · unfold ext1 at hv
        obtain ⟨c, hc, hv⟩ := List.mem_flatMap.mp hv
        obtain ⟨u, hu, rfl⟩ := List.mem_map.mp hv
        exact .add _ (Sp.mono (fun s hs => List.mem_append_left _ hs) (hF u hu)) (List.mem_append_right _ (List.mem_cons_self ..))
      · rw [ext1_len, hl, List.length_append, List.length_singleton, Nat.pow_succ, Nat.mul_comm]
  exact key B [] [zr w] rfl (List.nodup_cons.mpr ⟨by simp, List.nodup_nil⟩) (fun v hv => by rw [List.mem_singleton.mp hv]; exact .zero) rfl
theorem sums_rws (hp : 0 < p) {B : List Row} (h : Rws p w B) : Rws p w (sumsF p w B) := by
  have key : ∀ (C F : List Row), Rws p w C → Rws p w F → Rws p w (C.foldl (ext1 p) F) := by
    intro C
    induction C with
    | nil => intro F _ hF; exact hF
    | cons r C ih =>
      intro F hC hF
      refine ih (ext1 p F r) (fun s hs => hC s (List.mem_cons_of_mem _ hs)) fun v hv => ?_
      obtain ⟨c, hc, hv⟩ := List.mem_flatMap.mp hv
      obtain ⟨u, hu, rfl⟩ := List.mem_map.mp hv
      exact (hF u hu).ad hp (hC r (List.mem_cons_self ..)).len _
  exact key B _ h fun v hv => by rw [List.mem_singleton.mp hv]; exact Rw.zr hp w
/-- a row that is a multiple of one more row and sums of those ahead: the same sums -/
theorem sp_tri (hp : 1 < p) {iv : Int → Int} (hi : Inv p iv) {A F : List Row} {r v u : Row} {c : Int} (hA : Rws p w A) (hr : Rw p w r) (hF : Rws p w F) (hc : 0 < c) (hc2 : c < p) (hu : Sp p w A u) (hv : v = ad p u r c) (hs : ∀ x, Sp p w F x ↔ Sp p w A x) {x : Row} :
    Sp p w (v :: F) x ↔ Sp p w (A ++ [r]) x := by
  have hp0 : 0 < p := by omega
  have ru := hu.rw hp0 hA
  have rv : Rw p w v := by rw [hv]; exact ru.ad hp0 hr.len c
  have hAr : Rws p w (A ++ [r]) := hA.app fun s hs => by rw [List.mem_singleton.mp hs]; exact hr
  have hvF : Rws p w (v :: F) := fun s hs => by
    rcases List.mem_cons.mp hs with e | e
    · rw [e]; exact rv
    · exact hF s e
  have up : ∀ {y}, Sp p w A y → Sp p w (A ++ [r]) y := fun h => Sp.mono (fun s hs => List.mem_append_left _ hs) h
  have upF : ∀ {y}, Sp p w A y → Sp p w (v :: F) y := fun h => Sp.mono (fun s hs => List.mem_cons_of_mem _ hs) ((hs _).mpr h)
  have sr : Sp p w (A ++ [r]) r := Sp.mem hp0 hAr (List.mem_append_right _ (List.mem_cons_self ..))
  have sv : Sp p w (v :: F) v := Sp.mem hp0 hvF (List.mem_cons_self ..)
  constructor
  · refine Sp.sub hp0 hAr fun s h => ?_
    rcases List.mem_cons.mp h with e | e
    · rw [e, hv]; exact (up hu).ad hp0 hAr sr c
    · exact up ((hs s).mp (Sp.mem hp0 hF e))
  · refine Sp.sub hp0 hvF fun s h => ?_
    rcases List.mem_append.mp h with e | e
    · exact upF (Sp.mem hp0 hA e)
    · rw [List.mem_singleton.mp e]
      -- r = iv c * (v - u)
      have d := sv.ad hp0 hvF (upF hu) (-1)
      have q := Sp.zero.ad hp0 hvF d (iv c)
      have e2 : ad p (zr w) (ad p v u (-1)) (iv c) = r := by
        have l1 : v.length = u.length := rv.len.trans ru.len.symm
        have a1 := ad_len (p := p) l1 (-1)
        have lz : (zr w).length = (ad p v u (-1)).length := by rw [a1, rv.len]; exact List.length_replicate
        refine ext (by rw [ad_len lz, hr.len]; exact List.length_replicate) fun i => ?_
        rw [at_ad lz, at_zr, at_ad l1, m2, hv, at_ad (ru.len.trans hr.len.symm)]
        have e3 : ∀ X Y : Int, (0 + iv c * (X % p + -1 * Y)) % p = (0 + iv c * (X + -1 * Y)) % p := fun X Y => by
          have : X % p + -1 * Y = -1 * Y + 1 * (X % p) := by omega
          have z1 : iv c * (X % p + -1 * Y) = iv c * (-1 * Y) + iv c * (X % p) := by grind
          have z2 : iv c * (X + -1 * Y) = iv c * (-1 * Y) + iv c * X := by grind
          rw [Int.zero_add, Int.zero_add, z1, z2, m2]
        rw [e3]
        have e4 : 0 + iv c * (at_ u i + c * at_ r i + -1 * at_ u i) = 0 + at_ r i * (iv c * c) := by grind
        rw [e4, ← m2, hi c hc hc2, Int.mul_one, Int.zero_add, hr.mod hp0]
      rw [e2] at q
      exact q
end
end Li
-- K0a
set_option maxHeartbeats 4000000
namespace K0
open PySem Ev Ev.Rx Li
theorem r_whole (n : Nat) (i : Int) (h : Hh) : callF P (n + 10) 0 [.int i] h = .ok (.bl true) h := by
  rw [callF_at P fs0 rfl]
  simp [b0, isi_int (v := .int i) rfl, isi_bl (v := .int i) rfl, h_take0]
theorem r_within (n : Nat) (i a b : Int) (h : Hh) : callF P (n + 16) 1 [.int i, .int a, .int b] h = .ok (.bl (decide (a ≤ i) && decide (i ≤ b))) h := by
  rw [callF_at P fs1 rfl]
  simp [b1, r_whole]
  by_cases c : a ≤ i
  · simp [c, h_take0]
  · simp [c, h_take0]
theorem cs0 : P.cs[0]? = some (.tup [.int 2, .int 3, .int 5, .int 7]) := rfl
theorem cs1 : P.cs[1]? = some (.int 150) := rfl
theorem mem_prime {p : Int} (hp : Pr p) (h : Hh) : memH h (.int p) (.tup [.int 2, .int 3, .int 5, .int 7]) = some true := by
  rcases hp with rfl | rfl | rfl | rfl <;> rfl
theorem r_prime (n : Nat) (p : Int) (hp : Pr p) (h : Hh) : callF P (n + 16) 2 [.int p] h = .ok (.bl true) h := by
  rw [callF_at P fs2 rfl]
  simp [b2, r_whole, cs0, mem_prime hp, h_take0]
theorem r_reqprime (n : Nat) (p : Int) (hp : Pr p) (h : Hh) : callF P (n + 22) 6 [.int p] h = .ok .non h := by
  rw [callF_at P fs6 rfl]
  simp [b6, r_prime _ p hp, h_take0]
theorem r_reqwithin (n : Nat) (i a b : Int) (h1 : a ≤ i) (h2 : i ≤ b) (h : Hh) : callF P (n + 22) 5 [.int i, .int a, .int b] h = .ok .non h := by
  rw [callF_at P fs5 rfl]
  simp [b5, r_within, h1, h2, h_take0]
theorem r_row (n : Nat) {p : Int} {w : Nat} (r : Row) (hr : Rw p w r) (hw : w ≤ 1000) (h : Hh) :
    callF P (n + 30) 3 [.int p, .int (w : Int), tr r] h = .ok (.bl true) h := by
  rw [callF_at P fs3 rfl]
  have lc : ∀ m, loopC (.sq (tr r)) (lcT P (m + 22) (.gv 3) (.cst (.bl true)) (.cal 1 (.acons (.var 3) (.acons (.cst (.int 0)) (.acons (.bin .sub (.var 0) (.cst (.int 1))) .anil)))) [3] [.int p, .int (w : Int), tr r, .una]) turns 0 [] h = .oks (r.map fun _ => .bl true) h := fun m => by
    rw [loopC_map (fun _ => .bl true) (intL r) (fun i _ => rfl) (fun x hx => by
      obtain ⟨y, hy, rfl⟩ := List.mem_map.mp hx
      have := hr.res y hy
      rw [lcT_eq]
      simp [wipeD, r_within, this.1, show y ≤ p - 1 by omega]) (by rw [intL_len, hr.len]; omega)]
    unfold intL
    rw [List.map_map]
    rfl
  have ln : builtin .len [tr r] h = .ok (.int (w : Int)) h := by
    rw [bi_len (items_tr h r), intL_len, hr.len]
  simp [b3, isi_tup (v := tr r) rfl, show tyT (tr r) = true from rfl, ln, pyEq_int, sqK, items_tr, lc, newL0, bi_all0 (fun _ => true), h_take]
def unitP (w i : Nat) : Row := (List.range w).map fun (j : Nat) => if (j : Int) = (i : Int) then 1 else 0
theorem unitP_eq (w i : Nat) : unitP w i = unit w i := by
  refine ext (by unfold unitP; rw [List.length_map, List.length_range, unit_len]) fun j => ?_
  rw [unit_at]
  unfold unitP at_
  rw [List.getD_eq_getElem?_getD, List.getElem?_map]
  by_cases c : j < w
  · rw [List.getElem?_range c]
    by_cases e : i = j
    · subst e; simp [c]
    · rw [if_neg (by omega)]
      simp
      omega
  · rw [List.getElem?_eq_none (by simp; omega), if_neg (by omega)]
    rfl
theorem src_end {h : Hh} {lo st : Int} {m : Nat} : srcAt h (.rg lo st m) m = some none := by
  have e : Nat.blt m m = false := by
    cases c : Nat.blt m m with
    | false => rfl
    | true => exact absurd (Nat.blt_eq.mp c) (Nat.lt_irrefl m)
  unfold srcAt
  simp [e, show Nat.beq m m = true from Nat.beq_refl _]
theorem src_rg0 {h : Hh} {m i : Nat} (hi : i ≤ m) : srcAt h (.rg 0 1 m) i = some (((List.range m).map fun (j : Nat) => D.int (j : Int))[i]?) := by
  rcases Nat.lt_or_ge i m with c | c
  · show (match Nat.blt i m with | true => some (some (D.int (0 + (i : Int) * 1))) | false => _) = _
    rw [Nat.blt_eq.mpr c, List.getElem?_map, List.getElem?_range c]
    simp
  · have : i = m := by omega
    subst this
    rw [List.getElem?_eq_none (by simp)]
    exact src_end
theorem rngK1 {m : Nat} (hm : m ≤ 1000000) (h : Hh) : rngK [.int (m : Int)] h = .osr (.rg 0 1 m) h := by
  show (match Nat.blt (m : Int).natAbs (2 ^ 60) with | true => R.osr (.rg 0 1 (m : Int).toNat) h | false => .no) = _
  rw [Nat.blt_eq.mpr (by rw [Int.natAbs_natCast]; exact Nat.lt_of_le_of_lt hm (by decide))]
  simp
theorem r_scaled (n : Nat) (p c : Int) (hp : 0 < p) (hc : c.natAbs < 2 ^ 64) (r : Row) (h : Hh) (hs : r.length < 1000000) :
    callF P (n + 20) 7 [.int p, .int c, tr r] h = .ok (tr (sc p c r)) h := by
  rw [callF_at P fs7 rfl]
  have lc : ∀ m, loopC (.sq (tr r)) (lcT P (m + 10) (.gv 3) (.cst (.bl true)) (.bin .mod (.bin .mul (.var 1) (.var 3)) (.var 0)) [3] [.int p, .int c, tr r, .una]) turns 0 [] h = .oks (intL (sc p c r)) h := fun m =>
    lc_ints r (fun x => c * x % p) (fun i _ => rfl) (fun x _ => by
      rw [lcT_eq]
      simp [wipeD, binop_mul (mulOk_l hc), binop_mod (posI_of hp)]) hs
  simp [b7, sqK, lc, newL0, bi_tup0, h_take, tr_mk]
theorem zip_ad (p c : Int) (xs ys : Row) : ((xs.zip ys).map fun q => (q.1 + c * q.2) % p) = ad p xs ys c := by
  unfold ad
  rw [List.zip_eq_zipWith, List.map_zipWith]
theorem r_added (n : Nat) (p c : Int) (hp : 0 < p) (hc : c.natAbs < 2 ^ 64) (xs ys : Row) (h : Hh) (hl : xs.length = ys.length) (hs : xs.length < 1000000) :
    callF P (n + 20) 8 [.int p, tr xs, tr ys, .int c] h = .ok (tr (ad p xs ys c)) h := by
  rw [callF_at P fs8 rfl]
  have lc : ∀ m, loopC (.zp (tr xs) (tr ys)) (lcT P (m + 10) (.gt (.gcons (.gv 4) (.gcons (.gv 5) .gnil))) (.cst (.bl true)) (.bin .mod (.bin .add (.var 4) (.bin .mul (.var 3) (.var 5))) (.var 0)) [4, 5] [.int p, tr xs, tr ys, .int c, .una, .una]) turns 0 [] h = .oks (intL (ad p xs ys c)) h := fun m => by
    rw [lc_zip xs ys (fun a b => (a + c * b) % p) rfl rfl hl hs fun a b _ _ => by
      rw [lcT_eq]
      simp [wipeD, binop_mul (mulOk_l hc), binop_mod (posI_of hp)], zip_ad]
  simp [b8, zpK_of (items_tr h xs) (items_tr h ys), lc, newL0, bi_tup0, h_take, tr_mk]
theorem r_plus (n : Nat) (p c : Int) (hp : 0 < p) (hc : c.natAbs < 2 ^ 64) (xs ys : Row) (h : Hh) (hl : xs.length = ys.length) (hs : xs.length < 1000000) :
    callF P (n + 20) 27 [.int p, tr xs, tr ys, .int c] h = .ok (tr (ad p xs ys c)) h := by
  rw [callF_at P fs27 rfl]
  have lc : ∀ m, loopC (.zp (tr xs) (tr ys)) (lcT P (m + 10) (.gt (.gcons (.gv 4) (.gcons (.gv 5) .gnil))) (.cst (.bl true)) (.bin .mod (.bin .add (.var 4) (.bin .mul (.var 3) (.var 5))) (.var 0)) [4, 5] [.int p, tr xs, tr ys, .int c, .una, .una]) turns 0 [] h = .oks (intL (ad p xs ys c)) h := fun m => by
    rw [lc_zip xs ys (fun a b => (a + c * b) % p) rfl rfl hl hs fun a b _ _ => by
      rw [lcT_eq]
      simp [wipeD, binop_mul (mulOk_l hc), binop_mod (posI_of hp)], zip_ad]
  simp [b27, zpK_of (items_tr h xs) (items_tr h ys), lc, newL0, bi_tup0, h_take, tr_mk]
end K0
-- K0b
namespace K0
open PySem Ev Ev.Rx Li
theorem pick1 {α : Type} {Q : Nat → α → Prop} (h : ∀ m, ∃ r, Q m r) : ∃ r : Nat → α, ∀ m, Q m (r m) := ⟨fun m => Classical.choose (h m), fun m => Classical.choose_spec (h m)⟩
theorem intsD_intL (xs : List Int) : intsD (intL xs) = some xs := by
  induction xs with
  | nil => rfl
  | cons x xs ih =>
    show (match intsD (intL xs) with | some is => some (x :: is) | none => none) = _
    rw [ih]
theorem fstO_ld : ∀ (r : Row), fstO r = if ld r < r.length then some (ld r) else none
  | [] => rfl
  | x :: r => by
    unfold fstO ld
    cases c : decide (x = 0) with
    | false => rfl
    | true =>
      dsimp only
      rw [fstO_ld r]
      by_cases q : ld r < r.length
      · rw [if_pos q, if_pos (by simpa using q)]
      · rw [if_neg q, if_neg (by simpa using q)]
theorem fstD_ld (r : Row) : fstD r = if ld r < r.length then .int (ld r : Int) else .non := by
  unfold fstD
  rw [fstO_ld]
  by_cases c : ld r < r.length
  · rw [if_pos c, if_pos c]
  · rw [if_neg c, if_neg c]
theorem r_lead (n : Nat) (r : Row) (h : Hh) : callF P (n + 10) 9 [tr r] h = .ok (if ld r < r.length then .int (ld r : Int) else .non) h := by
  rw [callF_at P fs9 rfl]
  have e : fst0K (tr r) h = .ok (fstD r) h := by
    unfold fst0K
    rw [items_tr]
    dsimp only
    rw [intsD_intL]
  simp -implicitDefEqProofs [b9, leadI, e, fstD_ld]
  split <;> simp [h_take0]
theorem r_lead1 (n : Nat) {r : Row} (hl : ld r < r.length) (h : Hh) : callF P (n + 10) 9 [tr r] h = .ok (.int (ld r : Int)) h := by rw [r_lead, if_pos hl]
theorem r_lead0 (n : Nat) {r : Row} (hl : ¬ ld r < r.length) (h : Hh) : callF P (n + 10) 9 [tr r] h = .ok .non h := by rw [r_lead, if_neg hl]
theorem at_get {r : Row} {i : Nat} (h : i < r.length) : r[i]? = some (at_ r i) := by
  unfold at_
  rw [List.getD_eq_getElem?_getD, List.getElem?_eq_getElem h]
  rfl
theorem ix_tr {r : Row} {i : Nat} (hi : i < r.length) (h : Hh) : index (tr r) (.int (i : Int)) h = .ok (.int (at_ r i)) h := index_nat (items_tr h r) (at_get hi)
theorem foldl_take {α β : Type} (f : α → β → α) (v : α) {B : List β} {i : Nat} (hi : i < B.length) : (B.take (i + 1)).foldl f v = f ((B.take i).foldl f v) B[i] := by
  rw [List.take_add_one, List.getElem?_eq_getElem hi, Option.toList_some, List.foldl_append]
  rfl
theorem Red.ldlt {p : Int} {w : Nat} {B : List Row} (h : Red p w B) {r : Row} (hr : r ∈ B) : ld r < w := by
  rcases Nat.lt_or_ge (ld r) w with c | c
  · exact c
  · have := h.one r hr
    rw [at_out (by rw [(h.rw r hr).len]; exact c)] at this
    cases this
theorem at_small {p : Int} {w : Nat} (hp : Pr p) {r : Row} (hr : Rw p w r) (i : Nat) : 0 ≤ at_ r i ∧ at_ r i < 7 := by
  have := hr.at (by have := hp.pos; omega) i
  have := hp.pos
  omega
theorem neg_small {p : Int} {w : Nat} (hp : Pr p) {r : Row} (hr : Rw p w r) (i : Nat) : (-(at_ r i)).natAbs < 2 ^ 64 := by
  have := at_small hp hr i
  omega
theorem r_rest (n : Nat) {p : Int} (hp : Pr p) {w : Nat} (hw : w ≤ 1000) {B : List Row} (hB : Rws p w B) (hl : ∀ r ∈ B, ld r < w) (bl : B.length ≤ 1000) {v : Row} (hv : Rw p w v) (h : Hh) :
    callF P (n + 40) 11 [.int p, tb B, tr v] h = .ok (tr (rest p B v)) h := by
  rw [callF_at P fs11 rfl]
  have hp0 : 0 < p := by have := hp.pos; omega
  have lp : ∀ m, ∃ u : D × D, loopF (.sq (tb B)) (forT P (m + 30) (.gv 3) (.sCons (.sAsg (.gv 4) (.ix (.var 2) (.cal 9 (.acons (.var 3) .anil)))) (.sCons (.sIf (.cmp .ne (.var 4) (.cst (.int 0))) (.sCons (.sAsg (.gv 2) (.cal 8 (.acons (.var 0) (.acons (.var 2) (.acons (.var 3) (.acons (.neg (.var 4)) .anil)))))) .sNil) .sNil) .sNil))) turns 0 [.int p, tb B, tr v, .una, .una] h = .nx [.int p, tb B, tr (rest p B v), u.1, u.2] h := fun m => by
    obtain ⟨σ', h', e, ⟨u3, u4, e1⟩, e2⟩ := loopF_inv (s := .sq (tb B)) (f := forT P (m + 30) (.gv 3) (.sCons (.sAsg (.gv 4) (.ix (.var 2) (.cal 9 (.acons (.var 3) .anil)))) (.sCons (.sIf (.cmp .ne (.var 4) (.cst (.int 0))) (.sCons (.sAsg (.gv 2) (.cal 8 (.acons (.var 0) (.acons (.var 2) (.acons (.var 3) (.acons (.neg (.var 4)) .anil)))))) .sNil) .sNil) .sNil)))
      (fun i σ hh => (∃ u3 u4, σ = [.int p, tb B, tr (rest p (B.take i) v), u3, u4]) ∧ hh = h) B.length
      (fun i σ hh hi ⟨⟨u3, u4, e1⟩, e2⟩ => by
        subst e1 e2
        have hm := List.getElem_mem hi
        have rr := hB _ hm
        have rz : Rw p w (rest p (B.take i) v) := rest_rw hp0 (fun s hs => hB s (List.mem_of_mem_take hs)) hv
        have ll := hl _ hm
        have st : rest p (B.take (i + 1)) v = Li.step p (rest p (B.take i) v) B[i] := foldl_take (Li.step p) v hi
        refine ⟨tr B[i], [.int p, tb B, tr (rest p (B.take (i + 1)) v), tr B[i], .int (at_ (rest p (B.take i) v) (ld B[i]))], hh, ?_, .inl ?_, ⟨_, _, rfl⟩, rfl⟩
        · rw [src_sq (items_tb hh B), tbs_get, List.getElem?_eq_getElem hi]
          rfl
        · have ix := ix_tr (r := rest p (B.take i) v) (i := ld B[i]) (by rw [rz.len]; exact ll) hh
          simp -implicitDefEqProofs [r_lead1 _ (show ld B[i] < B[i].length by rw [rr.len]; exact ll), ix, pyEq_int]
          by_cases c : at_ (rest p (B.take i) v) (ld B[i]) = 0
          · simp [c, st, step_triv hp0 rz rr c]
          · simp [c, r_added _ p _ hp0 (neg_small hp rz (ld B[i])) _ _ _ (rz.len.trans rr.len.symm) (show (rest p (B.take i) v).length < 1000000 by rw [rz.len]; omega), st, Li.step])
      (fun σ hh ⟨⟨u3, u4, e1⟩, e2⟩ => by
        rw [src_sq (items_tb hh B), tbs_get, List.getElem?_eq_none (Nat.le_refl _)]
        rfl) turns 0 _ h (by unfold turns; omega) (Nat.zero_le _) ⟨⟨.una, .una, rfl⟩, rfl⟩
    rw [List.take_of_length_le (Nat.le_refl _)] at e1
    exact ⟨(u3, u4), e.trans (by rw [e1, e2])⟩
  obtain ⟨u, lp⟩ := pick1 lp
  simp -implicitDefEqProofs [b11, sqK_of (items_tb h B), lp, h_take0]
theorem any_tr (r : Row) (h : Hh) : builtin .any [tr r] h = .ok (.bl (r.any fun i => i != 0)) h := by
  show (match itemsOf h (tr r) with
      | some ds => match intsD ds with
        | some is => R.ok (.bl (is.any fun i => i != 0)) h
        | none => match tr r with
          | .ptr a => match bls ds with
            | some bs => .ok (.bl (bs.any id)) h
            | none => .no
          | _ => .no
      | none => .no) = _
  rw [items_tr]
  dsimp only
  rw [intsD_intL]
theorem any_zr {w : Nat} {r : Row} (hr : r.length = w) : (r.any fun i => i != 0) = !decide (r = zr w) := by
  by_cases c : r = zr w
  · rw [c]
    simp -implicitDefEqProofs [zr]
  · simp only [c, decide_false, Bool.not_false]
    have : ld r < r.length := by
      rcases Nat.lt_or_ge (ld r) r.length with q | q
      · exact q
      · exact absurd (by rw [← hr]; exact ld_zero (Nat.le_antisymm (ld_le r) q)) c
    refine List.any_eq_true.mpr ⟨at_ r (ld r), List.mem_of_getElem? (at_get this), ?_⟩
    simpa using ld_at this
theorem r_isin (n : Nat) {p : Int} (hp : Pr p) {w : Nat} (hw : w ≤ 1000) {B : List Row} (hB : Rws p w B) (hl : ∀ r ∈ B, ld r < w) (bl : B.length ≤ 1000) {v : Row} (hv : Rw p w v) (h : Hh) :
    callF P (n + 50) 12 [.int p, tb B, tr v] h = .ok (.bl (decide (rest p B v = zr w))) h := by
  rw [callF_at P fs12 rfl]
  have hp0 : 0 < p := by have := hp.pos; omega
  simp -implicitDefEqProofs [b12, r_rest _ hp hw hB hl bl hv, any_tr, any_zr (rest_rw hp0 hB hv).len, h_take0]
end K0
-- K0c
namespace K0
open PySem Ev Ev.Rx Li
theorem lc_genA {α : Type} {s : Src} {f : D → Hh → R} {h : Hh} (S : List α) (t : α → D) (g : α → Option D) (hs : ∀ i, i ≤ S.length → srcAt h s i = some ((S.map t)[i]?))
    (hf : ∀ x ∈ S, (∃ y, g x = some y ∧ f (t x) h = .ok y h) ∨ (g x = none ∧ ∃ σ, f (t x) h = .nx σ h)) (hl : S.length < 1000000) :
    ∀ (m i : Nat) (acc : List D), S.length < m + i → i ≤ S.length → acc.length ≤ i → loopC s f m i acc h = .oks (acc.reverse ++ (S.drop i).filterMap g) h
  | 0, i, acc, h1, h2, _ => by omega
  | m + 1, i, acc, h1, h2, h3 => by
    unfold loopC
    rw [hs i h2, List.getElem?_map]
    rcases Nat.lt_or_ge i S.length with hi | hi
    · rw [List.getElem?_eq_getElem hi]
      dsimp only [Option.map_some]
      rw [List.drop_eq_getElem_cons hi, List.filterMap_cons]
      rcases hf S[i] (List.getElem_mem hi) with ⟨y, e1, e2⟩ | ⟨e1, σ, e2⟩
      · rw [e2, e1]
        dsimp only
        rw [lc_genA S t g hs hf hl m (i + 1) (y :: acc) (by omega) (by omega) (by simp; omega)]
        simp
      · rw [e2, e1]
        dsimp only
        rw [lc_genA S t g hs hf hl m (i + 1) acc (by omega) (by omega) (by omega)]
    · rw [List.getElem?_eq_none hi]
      dsimp only [Option.map_none]
      have e : Nat.ble acc.length line = true := Nat.ble_eq.mpr (by unfold line; omega)
      rw [e, List.drop_eq_nil_of_le hi]
      simp
theorem lc_gen {α : Type} {s : Src} {f : D → Hh → R} {h : Hh} (S : List α) (t : α → D) (g : α → Option D) (hs : ∀ i, i ≤ S.length → srcAt h s i = some ((S.map t)[i]?))
    (hf : ∀ x ∈ S, (∃ y, g x = some y ∧ f (t x) h = .ok y h) ∨ (g x = none ∧ ∃ σ, f (t x) h = .nx σ h)) (hl : S.length < 1000000) : loopC s f turns 0 [] h = .oks (S.filterMap g) h := by
  rw [lc_genA S t g hs hf hl turns 0 [] (by unfold turns; omega) (Nat.zero_le _) (Nat.zero_le _)]
  rfl
theorem lc_all {α : Type} {s : Src} {f : D → Hh → R} {h : Hh} (S : List α) (t : α → D) (g : α → D) (hs : ∀ i, i ≤ S.length → srcAt h s i = some ((S.map t)[i]?))
    (hf : ∀ x ∈ S, f (t x) h = .ok (g x) h) (hl : S.length < 1000000) : loopC s f turns 0 [] h = .oks (S.map g) h := by
  rw [lc_gen S t (fun x => some (g x)) hs (fun x hx => .inl ⟨_, rfl, hf x hx⟩) hl]
  congr 1
  induction S with
  | nil => rfl
  | cons x xs ih => simp
theorem lc_sel {α : Type} {s : Src} {f : D → Hh → R} {h : Hh} (S : List α) (t : α → D) (q : α → Bool) (g : α → D) (hs : ∀ i, i ≤ S.length → srcAt h s i = some ((S.map t)[i]?))
    (hf : ∀ x ∈ S, (q x = true ∧ f (t x) h = .ok (g x) h) ∨ (q x = false ∧ ∃ σ, f (t x) h = .nx σ h)) (hl : S.length < 1000000) : loopC s f turns 0 [] h = .oks ((S.filter q).map g) h := by
  rw [lc_gen S t (fun x => if q x = true then some (g x) else none) hs (fun x hx => by
    rcases hf x hx with ⟨a, b⟩ | ⟨a, b⟩
    · exact .inl ⟨_, by rw [if_pos a], b⟩
    · exact .inr ⟨by rw [a]; rfl, b⟩) hl]
  congr 1
  clear hs hf hl
  induction S with
  | nil => rfl
  | cons x xs ih =>
    rw [List.filterMap_cons, List.filter_cons]
    cases q x <;> simp [ih]
theorem src_tb (h : Hh) (S : List Row) (i : Nat) : srcAt h (.sq (tb S)) i = some ((S.map tr)[i]?) := src_sq (items_tb h S) i
theorem isN_int (i : Int) (h : Hh) : cmpop .isN (.int i) .non h = .ok (.bl false) h := rfl
theorem isN_non (h : Hh) : cmpop .isN .non .non h = .ok (.bl true) h := rfl
theorem gdx_un {p : Int} (hp : Pr p) (h : Hh) : gdxK P 0 (.int p) h = .ok (.tup (intL (UN p))) h := by
  rcases hp with rfl | rfl | rfl | rfl <;> rfl
theorem r_un (n : Nat) {p x : Int} (hp : Pr p) (h0 : 0 < x) (h1 : x < p) (h : Hh) : callF P (n + 10) 4 [.int p, .int x] h = .ok (.int (iv p x)) h := by
  rw [callF_at P fs4 rfl]
  obtain ⟨g1, g2, g3⟩ := iv_get hp h0 h1
  have ix : index (.tup (intL (UN p))) (.int x) h = .ok (.int (iv p x)) h := by
    have := index_nat (x := .tup (intL (UN p))) (xs := UN p) (h := h) rfl g1
    rw [show ((x.toNat : Nat) : Int) = x by omega] at this
    exact this
  simp -implicitDefEqProofs [b4, gdx_un hp, ix, h_take0]
theorem cut_from {ds : List D} {k : Nat} (hk : k ≤ ds.length) : cut ds (some (k : Int)) none = ds.drop k := by
  show (ds.drop (min k ds.length)).take (ds.length - min k ds.length) = _
  rw [Nat.min_eq_left hk, List.take_of_length_le (by rw [List.length_drop]; exact Nat.le_refl _)]
theorem slice_fromL {a k : Nat} {ds : List D} {h : Hh} (e : h[a]? = some ds) (hk : k ≤ ds.length) : slice (.ptr a) (.int (k : Int)) .non h = newL h (ds.drop k) := by
  show (match h[a]? with | some ds => newL h (cut ds (some (k : Int)) none) | none => .no) = _
  rw [e]
  dsimp only
  rw [cut_from hk]
theorem slice_fromT {k : Nat} {ds : List D} {h : Hh} (hk : k ≤ ds.length) : slice (.tup ds) (.int (k : Int)) .non h = .ok (.tup (ds.drop k)) h := by
  show R.ok (.tup (cut ds (some (k : Int)) none)) h = _
  rw [cut_from hk]
theorem mkT_put (A C : List Row) (t : Row) : mkT (tbs A ++ tr t :: tbs C) = tb (A ++ t :: C) := by
  have : tbs A ++ tr t :: tbs C = tbs (A ++ t :: C) := by
    unfold tbs
    rw [List.map_append, List.map_cons]
  rw [this, mkT_tbs]
theorem tbs_take (S : List Row) (k : Nat) : (tbs S).take k = tbs (S.take k) := (List.map_take ..).symm
theorem tbs_drop (S : List Row) (k : Nat) : (tbs S).drop k = tbs (S.drop k) := (List.map_drop ..).symm
end K0
-- K0d
namespace K0
open PySem Ev Ev.Rx Li
theorem lc15a (m : Nat) {p : Int} (hp : Pr p) {w : Nat} (hw : w ≤ 1000) {B : List Row} (hB : Rws p w B) (bl : B.length ≤ 1000) {t : Row} (ht : Rw p w t) (hl : ld t < w) (v u5 u6 u7 : D) (h : Hh) :
    loopC (.sq (tb B)) (lcT P (m + 30) (.gv 7) (.cst (.bl true)) (.cal 8 (.acons (.var 0) (.acons (.var 7) (.acons (.var 3) (.acons (.neg (.ix (.var 7) (.var 4))) .anil))))) [7] [.int p, tb B, v, tr t, .int (ld t : Int), u5, u6, u7]) turns 0 [] h = .oks (tbs (B.map (ln p t))) h := by
  have hp0 : 0 < p := by have := hp.pos; omega
  rw [lc_all B tr (fun r => tr (ln p t r)) (fun i _ => src_tb h B i) (fun r hr => by
    have rr := hB r hr
    have ix := ix_tr (r := r) (i := ld t) (by rw [rr.len]; exact hl) h
    rw [lcT_eq]
    simp -implicitDefEqProofs [wipeD, ix, r_added _ p _ hp0 (neg_small hp rr (ld t)) _ _ _ (rr.len.trans ht.len.symm) (show r.length < 1000000 by rw [rr.len]; omega), ln]) (by omega)]
  unfold tbs
  rw [List.map_map]
  rfl
theorem src_ptr {a : Nat} {S : List Row} {h : Hh} (e : h[a]? = some (tbs S)) (i : Nat) : srcAt h (.sq (.ptr a)) i = some ((S.map tr)[i]?) := src_sq (x := .ptr a) e i
theorem lc15b (m : Nat) {p : Int} {w : Nat} {L : List Row} (hL : Rws p w L) (hl : ∀ r ∈ L, ld r < w) (ll : L.length ≤ 1000) (l a : Nat) (u0 u1 u2 u3 u5 u6 u7 : D) (h : Hh) (e : h[a]? = some (tbs L)) (kn : isUna u5 = false) :
    loopC (.sq (.ptr a)) (lcT P (m + 30) (.gv 7) (.cmp .lt (.cal 9 (.acons (.var 7) .anil)) (.var 4)) (.var 7) [7] [u0, u1, u2, u3, .int (l : Int), u5, u6, u7]) turns 0 [] h = .oks (tbs (L.filter fun r => decide (ld r < l))) h := by
  rw [lc_sel L tr (fun r => decide (ld r < l)) tr (fun i _ => src_ptr e i) (fun r hr => by
    have rr := hL r hr
    have ll := hl r hr
    rw [lcT_eq]
    simp -implicitDefEqProofs [wipeD, r_lead1 _ (show ld r < r.length by rw [rr.len]; exact ll)]
    by_cases c : ld r < l
    · left; simp [c]
    · right; simp [c]; omega) (by omega)]
  rfl
theorem r_with (n : Nat) {p : Int} (hp : Pr p) {w : Nat} (hw : w ≤ 1000) {B : List Row} (hB : Red p w B) (bl : B.length ≤ 1000) {v : Row} (hv : Rw p w v) (h : Hh) :
    callF P (n + 60) 13 [.int p, tb B, tr v] h = .ok (tb (wr p (iv p) B v)) h := by
  rw [callF_at P fs13 rfl]
  have pp := hp.pos
  have hp0 : 0 < p := by omega
  have hz := rest_rw hp0 hB.rw hv
  have hrest := fun m => r_rest m hp hw hB.rw (fun r hr => Red.ldlt hB hr) bl hv h
  unfold wr
  dsimp only
  by_cases c : ld (rest p B v) < (rest p B v).length
  · have c' : ld (rest p B v) < w := by rw [← hz.len]; exact c
    have S := scd pp.1 (inv_iv hp) hz c'
    have nn := ld_at c
    have za := hz.at hp0 (ld (rest p B v))
    have ix := ix_tr c h
    have z0 : ∀ r ∈ B, at_ (rest p B v) (ld r) = 0 := fun r hr => rest_at hp0 hB hv r hr
    have un := fun m => r_un m hp (x := at_ (rest p B v) (ld (rest p B v))) (by omega) za.2 h
    obtain ⟨_, _, sm⟩ := iv_get hp (x := at_ (rest p B v) (ld (rest p B v))) (by omega) za.2
    have scl := fun m => r_scaled m p (iv p (at_ (rest p B v) (ld (rest p B v)))) hp0 (by omega) (rest p B v) h (by rw [hz.len]; omega)
    rw [decide_eq_true c]
    dsimp only
    have lead := fun m => r_lead1 m c h
    generalize hzz : rest p B v = z at *
    generalize htt : sc p (iv p (at_ z (ld z))) z = t at *
    have lt : ld t = ld z := S.ld
    have t0 : ∀ r ∈ B, at_ t (ld r) = 0 := fun r hr => S.zero _ (z0 r hr)
    have RL := lines_red pp.1 hB S.rw S.one t0
    have la := fun m (u5 u6 u7 : D) => lc15a m hp hw hB.rw bl S.rw (by rw [lt]; exact c') (tr v) u5 u6 u7 h
    rw [lt] at la
    generalize hLL : B.map (ln p t) = L at *
    have lL : L.length = B.length := by rw [← hLL, List.length_map]
    have e1 : (h ++ [tbs L])[h.length]? = some (tbs L) := by rw [h_get0]; rfl
    have lb := fun m (u0 u1 u2 u3 u6 u7 : D) => lc15b m RL.rw (fun r hr => Red.ldlt RL hr) (by omega) (ld z) h.length u0 u1 u2 u3 (.ptr h.length) u6 u7 (h ++ [tbs L]) e1 rfl
    generalize hFF : L.filter (fun r => decide (ld r < ld z)) = F at *
    have lF : F.length ≤ L.length := by rw [← hFF]; exact List.length_filter_le ..
    have e2 : (h ++ [tbs L, tbs F])[h.length]? = some (tbs L) := by rw [h_get0]; rfl
    have e3 : (h ++ [tbs L, tbs F])[h.length + 1]? = some (tbs F) := by rw [h_get]; rfl
    have s1 := slice_toL e2 (show F.length ≤ (tbs L).length by rw [tbs_len]; exact lF)
    have e4 : (h ++ [tbs L, tbs F, tbs (L.take F.length)])[h.length]? = some (tbs L) := by rw [h_get0]; rfl
    have e4b : (h ++ [tbs L, tbs F, tbs (L.take F.length)])[h.length + 2]? = some (tbs (L.take F.length)) := by rw [h_get]; rfl
    have s2 := slice_fromL e4 (show F.length ≤ (tbs L).length by rw [tbs_len]; exact lF)
    have e5 : (h ++ [tbs L, tbs F, tbs (L.take F.length), tbs (L.drop F.length)])[h.length + 3]? = some (tbs (L.drop F.length)) := by rw [h_get]; rfl
    rw [tbs_take] at s1
    rw [tbs_drop] at s2
    have ln1 : builtin .len [.ptr (h.length + 1)] (h ++ [tbs L, tbs F]) = .ok (.int (F.length : Int)) (h ++ [tbs L, tbs F]) := by
      rw [bi_len (x := .ptr (h.length + 1)) e3, tbs_len]
    have ss1 := k_astar P (d := .ptr (h.length + 2)) (h1 := h ++ [tbs L, tbs F, tbs (L.take F.length)]) (es := tbs (L.take F.length)) (q := e4b)
    have ss2 := k_astar P (d := .ptr (h.length + 3)) (h1 := h ++ [tbs L, tbs F, tbs (L.take F.length), tbs (L.drop F.length)]) (es := tbs (L.drop F.length)) (q := e5)
    have tk := tupK_of (ds := tbs (L.take F.length) ++ tr t :: tbs (L.drop F.length)) (by simp; omega) (h ++ [tbs L, tbs F, tbs (L.take F.length), tbs (L.drop F.length)])
    rw [mkT_put] at tk
    simp -implicitDefEqProofs [b13, hrest, lead, isN_int, ix, un, scl, sqK_of (items_tb h B), la, newL0, sqK_of (x := .ptr h.length) e1, lb, newL1, ln1, s1, s2, ss1, ss2, tk, h_take]
  · rw [decide_eq_false c]
    have lead := fun m => r_lead0 m c h
    simp -implicitDefEqProofs [b13, hrest, lead, isN_non, h_take0]
end K0
-- K0e
namespace K0
open PySem Ev Ev.Rx Li
theorem wr_len_le (p : Int) (iv : Int → Int) (B : List Row) (v : Row) : (wr p iv B v).length ≤ B.length + 1 := by
  unfold wr
  dsimp only
  split
  · omega
  · rw [List.length_append, List.length_cons, List.length_take, List.length_drop, List.length_map]
    omega
theorem fold_len_le (p : Int) (iv : Int → Int) : ∀ (rows B : List Row), (rows.foldl (wr p iv) B).length ≤ B.length + rows.length
  | [], B => by simp
  | v :: rows, B => by
    have := fold_len_le p iv rows (wr p iv B v)
    have := wr_len_le p iv B v
    simp only [List.foldl_cons, List.length_cons]
    omega
theorem rws_take {p : Int} {w : Nat} {S : List Row} (h : Rws p w S) (k : Nat) : Rws p w (S.take k) := fun r hr => h r (List.mem_of_mem_take hr)
theorem r_redd (n : Nat) {p : Int} (hp : Pr p) {w : Nat} (hw : w ≤ 1000) {S : List Row} (hS : Rws p w S) (sl : S.length ≤ 900) (x : D) (h : Hh) (kx : isUna x = false) (ex : itemsOf h x = some (tbs S)) :
    callF P (n + 80) 14 [.int p, x] h = .ok (tb (redd p (iv p) S)) h := by
  rw [callF_at P fs14 rfl]
  have pp := hp.pos
  have hp0 : 0 < p := by omega
  have lp : ∀ m, ∃ u : D, loopF (.sq x) (forT P (m + 70) (.gv 3) (.sCons (.sAsg (.gv 2) (.cal 13 (.acons (.var 0) (.acons (.var 2) (.acons (.var 3) .anil))))) .sNil)) turns 0 [.int p, x, .tup [], .una] h = .nx [.int p, x, tb (redd p (iv p) S), u] h := fun m => by
    obtain ⟨σ', h', e, ⟨u3, e1⟩, e2⟩ := loopF_inv (s := .sq x) (f := forT P (m + 70) (.gv 3) (.sCons (.sAsg (.gv 2) (.cal 13 (.acons (.var 0) (.acons (.var 2) (.acons (.var 3) .anil))))) .sNil))
      (fun i σ hh => (∃ u3, σ = [.int p, x, tb (redd p (iv p) (S.take i)), u3]) ∧ hh = h) S.length
      (fun i σ hh hi ⟨⟨u3, e1⟩, e2⟩ => by
        subst e1 e2
        have hm := List.getElem_mem hi
        have rr := hS _ hm
        have st : redd p (iv p) (S.take (i + 1)) = wr p (iv p) (redd p (iv p) (S.take i)) S[i] := foldl_take (wr p (iv p)) [] hi
        have RB := (redd_ok pp.1 (inv_iv hp) (rws_take hS i)).1
        have bl : (redd p (iv p) (S.take i)).length ≤ 1000 := by
          have := fold_len_le p (iv p) (S.take i) []
          rw [List.length_take] at this
          unfold redd
          simp only [List.length_nil] at this
          omega
        have rw15 := fun m => r_with m hp hw RB bl rr hh
        refine ⟨tr S[i], [.int p, x, tb (redd p (iv p) (S.take (i + 1))), tr S[i]], hh, ?_, .inl ?_, ⟨_, rfl⟩, rfl⟩
        · rw [src_sq ex, tbs_get, List.getElem?_eq_getElem hi]
          rfl
        · simp -implicitDefEqProofs [rw15, st, kx])
      (fun σ hh ⟨⟨u3, e1⟩, e2⟩ => by
        subst e2
        rw [src_sq ex, tbs_get, List.getElem?_eq_none (Nat.le_refl _)]
        rfl) turns 0 _ h (by unfold turns; omega) (Nat.zero_le _) ⟨⟨.una, rfl⟩, rfl⟩
    rw [List.take_of_length_le (Nat.le_refl _)] at e1
    exact ⟨u3, e.trans (by rw [e1, e2])⟩
  obtain ⟨u, lp⟩ := pick1 lp
  simp -implicitDefEqProofs [b14, kx, tupK_nil, sqK_of ex, lp, h_take0]
/-! sums by factors -/
theorem dot_take (x : Row) (T : List Row) (j : Nat) {i : Nat} (h1 : i < x.length) (h2 : i < T.length) : dot (x.take (i + 1)) ((T.take (i + 1)).map (at_ · j)) = dot (x.take i) ((T.take i).map (at_ · j)) + x[i] * at_ T[i] j := by
  rw [List.take_add_one, List.take_add_one, List.getElem?_eq_getElem h1, List.getElem?_eq_getElem h2]
  simp only [Option.toList_some, List.map_append, List.map_cons, List.map_nil]
  rw [dot_app _ _ _ _ (by simp; omega)]
  unfold dot
  unfold dot
  omega
theorem zip_at {α β : Type} {a : List α} {b : List β} {j : Nat} {x : α} {y : β} (h1 : a[j]? = some x) (h2 : b[j]? = some y) : (a.zip b)[j]? = some (x, y) := List.getElem?_zip_eq_some.mpr ⟨h1, h2⟩
theorem at_zip {a b : Row} (h : a.length = b.length) (f : Int) (j : Nat) : at_ ((a.zip b).map fun q => q.1 + f * q.2) j = at_ a j + f * at_ b j := by
  unfold at_
  simp only [List.getD_eq_getElem?_getD, List.getElem?_map]
  by_cases hi : j < a.length
  · rw [zip_at (List.getElem?_eq_getElem hi) (List.getElem?_eq_getElem (h ▸ hi)), List.getElem?_eq_getElem hi, List.getElem?_eq_getElem (h ▸ hi)]
    rfl
  · rw [List.getElem?_eq_none (by rw [List.length_zip]; omega), List.getElem?_eq_none (by omega), List.getElem?_eq_none (by omega)]
    simp
def w10 : I := .sCons (.sIf (.cmp .ne (.var 5) (.cst (.int 0))) (.sCons (.sAsg (.gv 4) (.lc (.gt (.gcons (.gv 7) (.gcons (.gv 8) .gnil))) (.iZ (.var 4) (.var 6)) (.cst (.bl true)) (.bin .add (.var 7) (.bin .mul (.var 5) (.var 8))) [7, 8])) .sNil) .sNil) .sNil
theorem rep0L {n : Nat} (h : Hh) (hn : n ≤ 1000000) : binop .mul (.ptr h.length) (.int (n : Int)) (h ++ [[.int 0]]) = .ok (.ptr (h.length + 1)) (h ++ [[.int 0], intL (List.replicate n 0)]) := by
  rw [rep1L 0 (by rw [h_get0]; rfl) hn, newL1]
  rfl
end K0
-- K0f
namespace K0
open PySem Ev Ev.Rx Li
theorem back_at {h h0 : Hh} {ds : List D} {a : Nat} (n : Nat) (hn : n ≤ a) (e : h[a]? = some ds) (q : ds.any isPtr = false) (t : h.take n = h0) : back n (.ptr a) h = .ok (.ptr n) (h0 ++ [ds]) := by
  have b : Nat.blt a n = false := by
    cases z : Nat.blt a n with
    | false => rfl
    | true => have := Nat.blt_eq.mp z; omega
  show (match Nat.blt a n with
    | true => R.ok (.ptr a) (h.take n)
    | false => (match h[a]? with
      | some ds => (match ds.any isPtr with
        | true => .ok (.ptr a) h
        | false => .ok (.ptr n) (h.take n ++ [ds]))
      | none => .no)) = _
  rw [b, e]
  dsimp only
  rw [q, t]
theorem bt_ptr0 (h : Hh) (ds : List D) (q : ds.any isPtr = false) : back h.length (.ptr h.length) (h ++ [ds]) = .ok (.ptr h.length) (h ++ [ds]) :=
  back_at h.length (Nat.le_refl _) (by rw [h_get0]; rfl) q (h_take h [ds])
def lds (B : List Row) : List D := B.map fun r => .int (ld r : Int)
theorem lds_any (B : List Row) : (lds B).any isPtr = false := by
  induction B with
  | nil => rfl
  | cons x xs ih => exact ih
theorem r_leads (n : Nat) {w : Nat} {p : Int} {B : List Row} (hB : Red p w B) (bl : B.length ≤ 1000) (h : Hh) : callF P (n + 30) 10 [tb B] h = .ok (.ptr h.length) (h ++ [lds B]) := by
  rw [callF_at P fs10 rfl]
  have lc : ∀ m, loopC (.sq (tb B)) (lcT P (m + 15) (.gv 1) (.cst (.bl true)) (.cal 9 (.acons (.var 1) .anil)) [1] [tb B, .una]) turns 0 [] h = .oks (lds B) h := fun m => by
    rw [lc_all B tr (fun r => .int (ld r : Int)) (fun i _ => src_tb h B i) (fun r hr => by
      have rr := hB.rw r hr
      rw [lcT_eq]
      simp -implicitDefEqProofs [wipeD, r_lead1 _ (show ld r < r.length by rw [rr.len]; exact Red.ldlt hB hr)]) (by omega)]
    rfl
  simp -implicitDefEqProofs [b10, sqK_of (items_tb h B), lc, newL0, bt_ptr0 h (lds B) (lds_any B)]
theorem inc_len (w : Nat) : ∀ (L : List Nat) (lo : Nat), L.Pairwise (· < ·) → (∀ x ∈ L, lo ≤ x ∧ x < w) → lo ≤ w → L.length + lo ≤ w
  | [], lo, _, _, h => by simpa using h
  | a :: L, lo, hp, hb, h => by
    obtain ⟨p1, p2⟩ := List.pairwise_cons.mp hp
    have ha := hb a (List.mem_cons_self ..)
    have := inc_len w L (a + 1) p2 (fun x hx => ⟨p1 x hx, (hb x (List.mem_cons_of_mem _ hx)).2⟩) (by omega)
    simp only [List.length_cons]
    omega
theorem red_len {p : Int} {w : Nat} {B : List Row} (h : Red p w B) : B.length ≤ w := by
  have := inc_len w (B.map ld) 0 (by rw [List.pairwise_map]; exact h.lt) (fun x hx => by
    obtain ⟨r, hr, rfl⟩ := List.mem_map.mp hx
    exact ⟨Nat.zero_le _, Red.ldlt h hr⟩) (Nat.zero_le _)
  simpa using this
theorem cut_fromA (ds : List D) (k : Nat) : cut ds (some (k : Int)) none = ds.drop k := by
  by_cases hk : k ≤ ds.length
  · exact cut_from hk
  · show (ds.drop (min k ds.length)).take (ds.length - min k ds.length) = _
    rw [Nat.min_eq_right (by omega), Nat.sub_self, List.take_zero, List.drop_eq_nil_of_le (by omega)]
theorem slice_fromA {a : Nat} {ds : List D} {h : Hh} (e : h[a]? = some ds) (k : Nat) : slice (.ptr a) (.int (k : Int)) .non h = newL h (ds.drop k) := by
  show (match h[a]? with | some ds => newL h (cut ds (some (k : Int)) none) | none => .no) = _
  rw [e]
  dsimp only
  rw [cut_fromA]
theorem noneIn {a : Nat} {B : List Row} {h : Hh} (e : h[a]? = some (lds B)) : memH h .non (.ptr a) = some false := by
  unfold memH
  rw [items_ptr, e]
  have e1 : (lds B).all flatD = true := by
    clear e
    induction B with
    | nil => rfl
    | cons x xs ih => exact ih
  have e2 : ((lds B).any fun y => flatE y .non) = false := by
    clear e e1
    induction B with
    | nil => rfl
    | cons x xs ih => exact ih
  show (match true, some (lds B) with
    | true, some ds => (match ds.all flatD with
      | true => some (ds.any fun y => flatE y .non)
      | false => none)
    | _, _ => none) = _
  dsimp only
  rw [e1]
  dsimp only
  rw [e2]
theorem bls_rep (k : Nat) : bls (List.replicate k (.bl true)) = some (List.replicate k true) := by
  induction k with
  | zero => rfl
  | succ k ih =>
    rw [List.replicate_succ]
    show (match bls (List.replicate k (.bl true)) with | some bs => some (true :: bs) | none => none) = _
    rw [ih]
    rfl
theorem loopA_true {s : Src} {f : D → Hh → R} {h : Hh} (xs : List D) (hs : ∀ i, i ≤ xs.length → srcAt h s i = some xs[i]?) (hf : ∀ x ∈ xs, f x h = .ok (.bl true) h) :
    ∀ (m i k : Nat), xs.length < m + i → i ≤ xs.length → loopA s f m i (List.replicate k (.bl true)) h = .oks (List.replicate (k + (xs.length - i)) (.bl true)) h
  | 0, i, k, h1, h2 => by omega
  | m + 1, i, k, h1, h2 => by
    unfold loopA
    rw [hs i h2]
    rcases Nat.lt_or_ge i xs.length with hi | hi
    · rw [List.getElem?_eq_getElem hi]
      dsimp only
      rw [hf xs[i] (List.getElem_mem hi)]
      dsimp only
      rw [← List.replicate_succ, loopA_true xs hs hf m (i + 1) (k + 1) (by omega) (by omega)]
      congr 2
      omega
    · rw [List.getElem?_eq_none hi]
      dsimp only
      rw [show xs.length - i = 0 by omega, Nat.add_zero]
theorem loopB_true {s : Src} {f : D → List D → Hh → R} {h : Hh} (xs : List D) (c : Nat) (hs : ∀ i, i ≤ xs.length → srcAt h s i = some xs[i]?) (hf : ∀ x ∈ xs, ∀ k, f x (List.replicate k (.bl true)) h = .oks (List.replicate (k + c) (.bl true)) h) (hl : xs.length * c ≤ 1000000) :
    ∀ (m i : Nat), xs.length < m + i → i ≤ xs.length → loopB s f m i (List.replicate (i * c) (.bl true)) h = .oks (List.replicate (xs.length * c) (.bl true)) h
  | 0, i, h1, h2 => by omega
  | m + 1, i, h1, h2 => by
    unfold loopB
    rw [hs i h2]
    rcases Nat.lt_or_ge i xs.length with hi | hi
    · rw [List.getElem?_eq_getElem hi]
      dsimp only
      rw [hf xs[i] (List.getElem_mem hi)]
      dsimp only
      rw [show i * c + c = (i + 1) * c by rw [Nat.add_mul, Nat.one_mul], loopB_true xs c hs hf hl m (i + 1) (by omega) (by omega)]
    · rw [List.getElem?_eq_none hi]
      dsimp only
      have : i = xs.length := by omega
      subst this
      rw [show Nat.ble (List.replicate (xs.length * c) (D.bl true)).length line = true from Nat.ble_eq.mpr (by rw [List.length_replicate]; unfold line; omega)]
      dsimp only
      rw [List.reverse_replicate]
theorem pw_zip {α : Type} {R : α → α → Prop} : ∀ {L : List α}, L.Pairwise R → ∀ q ∈ L.zip (L.drop 1), R q.1 q.2
  | [], _, q, hq => by cases hq
  | [a], _, q, hq => by cases hq
  | a :: b :: L, h, q, hq => by
    obtain ⟨p1, p2⟩ := List.pairwise_cons.mp h
    rcases List.mem_cons.mp (show q ∈ (a, b) :: (b :: L).zip ((b :: L).drop 1) from hq) with e | e
    · rw [e]; exact p1 b (List.mem_cons_self ..)
    · exact pw_zip p2 q e
theorem lds_zip (B : List Row) : (lds B).zip ((lds B).drop 1) = (B.zip (B.drop 1)).map fun q => (D.int (ld q.1 : Int), D.int (ld q.2 : Int)) := by
  unfold lds
  rw [← List.map_drop, List.zip_map]
  rfl
def i17 : I := .lc2 (.gt (.gcons (.gv 3) (.gcons (.gv 4) .gnil))) (.iE (.var 1)) (.gt (.gcons (.gv 5) (.gcons (.gv 6) .gnil))) (.iE (.var 2)) (.cst (.bl true)) (.cmp .eq (.ix (.var 4) (.var 6)) (.blt .int (.acons (.cmp .eq (.var 3) (.var 5)) .anil))) [3, 4, 5, 6] [5, 6]
theorem all_rep (k a : Nat) (h : Hh) (e : h[a]? = some (List.replicate k (.bl true))) : builtin .all [.ptr a] h = .ok (.bl true) h := by
  rw [bi_all e (bls_rep k)]
  simp
theorem r_isred (n : Nat) {p : Int} {w : Nat} {B : List Row} (hB : Red p w B) (hw : w ≤ 200) (h : Hh) : callF P (n + 60) 15 [.int p, tb B] h = .ok (.bl true) h := by
  rw [callF_at P fs15 rfl]
  have bl := red_len hB
  obtain ⟨cc, hcc⟩ : ∃ c, c = (B.zip (B.drop 1)).length := ⟨_, rfl⟩
  obtain ⟨Z, hZ⟩ : ∃ Z, Z = (lds B).drop 1 := ⟨_, rfl⟩
  have e1 : (h ++ [lds B])[h.length]? = some (lds B) := by rw [h_get0]; rfl
  have e2 : (h ++ [lds B, Z])[h.length]? = some (lds B) := by rw [h_get0]; rfl
  have e3 : (h ++ [lds B, Z])[h.length + 1]? = some (Z) := by rw [h_get]; rfl
  have lc : ∀ m u3 u4 u5 u6 u7 u8, loopC (.zp (.ptr h.length) (.ptr (h.length + 1))) (lcT P (m + 20) (.gt (.gcons (.gv 7) (.gcons (.gv 8) .gnil))) (.cst (.bl true)) (.cmp .lt (.var 7) (.var 8)) [7, 8] [.int p, tb B, .ptr h.length, u3, u4, u5, u6, u7, u8]) turns 0 [] (h ++ [lds B, Z]) = .oks (List.replicate cc (.bl true)) (h ++ [lds B, Z]) := fun m u3 u4 u5 u6 u7 u8 => by
    rw [lc_all (B.zip (B.drop 1)) (fun q => D.tup [.int (ld q.1 : Int), .int (ld q.2 : Int)]) (fun _ => .bl true) (fun i hi => by
      rw [src_zpG (x := .ptr h.length) (y := .ptr (h.length + 1)) e2 e3 i (by
        rw [List.length_zip, List.length_drop] at hi
        rw [hZ]
        unfold lds
        rw [List.length_drop, List.length_map]
        omega), hZ, lds_zip, List.map_map]
      rfl) (fun q hq => by
      have := pw_zip hB.lt q hq
      rw [lcT_eq]
      simp -implicitDefEqProofs [wipeD, this]) (by rw [List.length_zip, List.length_drop]; omega)]
    rw [hcc]
    congr 1
    exact List.map_const' ..
  have e4 : ∀ k : Nat, (h ++ [lds B, Z, List.replicate k (D.bl true)])[h.length]? = some (lds B) := fun k => by rw [h_get0]; rfl
  have lb : ∀ m u3 u4 u5 u6 u7 u8 (k : Nat), loopB (.en (tb B)) (fun d acc h2 => turnB P (m + 20) (.gt (.gcons (.gv 3) (.gcons (.gv 4) .gnil))) (.iE (.var 2)) (.gt (.gcons (.gv 5) (.gcons (.gv 6) .gnil))) (.cst (.bl true)) (.cmp .eq (.ix (.var 4) (.var 6)) (.blt .int (.acons (.cmp .eq (.var 3) (.var 5)) .anil))) [3, 4, 5, 6] [5, 6] [.int p, tb B, .ptr h.length, u3, u4, u5, u6, u7, u8] d acc h2) turns 0 [] (h ++ [lds B, Z, List.replicate k (.bl true)]) = .oks (List.replicate (B.length * B.length) (.bl true)) (h ++ [lds B, Z, List.replicate k (.bl true)]) := fun m u3 u4 u5 u6 u7 u8 k => by
    have key := loopB_true (s := .en (tb B)) (h := h ++ [lds B, Z, List.replicate k (.bl true)]) (f := fun d acc h2 => turnB P (m + 20) (.gt (.gcons (.gv 3) (.gcons (.gv 4) .gnil))) (.iE (.var 2)) (.gt (.gcons (.gv 5) (.gcons (.gv 6) .gnil))) (.cst (.bl true)) (.cmp .eq (.ix (.var 4) (.var 6)) (.blt .int (.acons (.cmp .eq (.var 3) (.var 5)) .anil))) [3, 4, 5, 6] [5, 6] [.int p, tb B, .ptr h.length, u3, u4, u5, u6, u7, u8] d acc h2)
      (B.zipIdx.map fun q => D.tup [.int (q.2 : Int), tr q.1]) B.length (fun i hi => by
        rw [src_enG (items_tb _ B) i (by simpa using hi)]
        unfold tbs
        rw [List.zipIdx_map, List.map_map]
        rfl) (fun d hd k2 => by
        obtain ⟨q, hq, rfl⟩ := List.mem_map.mp hd
        obtain ⟨r, i⟩ := q
        have hi := List.mem_zipIdx hq
        simp only [Nat.zero_add, Nat.sub_zero] at hi
        obtain ⟨_, hil, her⟩ := hi
        have hr : r ∈ B := by rw [her]; exact List.getElem_mem _
        have rr := hB.rw r hr
        have as : asg (ev P (m + 20)) (.gt (.gcons (.gv 3) (.gcons (.gv 4) .gnil))) (.tup [.int (i : Int), tr r]) (wipeD [.int p, tb B, .ptr h.length, u3, u4, u5, u6, u7, u8] [3, 4, 5, 6]) (h ++ [lds B, Z, List.replicate k (.bl true)]) = .nx [.int p, tb B, .ptr h.length, .int (i : Int), tr r, .una, .una, u7, u8] (h ++ [lds B, Z, List.replicate k (.bl true)]) := by
          simp -implicitDefEqProofs [wipeD]
        rw [turnB_nx P as]
        simp -implicitDefEqProofs [enK_of (x := .ptr h.length) (e4 k)]
        rw [loopA_true (B.zipIdx.map fun q => D.tup [.int (q.2 : Int), .int (ld q.1 : Int)]) (fun j hj => by
          rw [src_enG (x := .ptr h.length) (e4 k) j (by unfold lds; simpa using hj)]
          unfold lds
          rw [List.zipIdx_map, List.map_map]
          rfl) (fun d hd => by
          obtain ⟨q, hq, rfl⟩ := List.mem_map.mp hd
          obtain ⟨s, j⟩ := q
          have hj := List.mem_zipIdx hq
          simp only [Nat.zero_add, Nat.sub_zero] at hj
          obtain ⟨_, hjl, hes⟩ := hj
          have hs : s ∈ B := by rw [hes]; exact List.getElem_mem _
          have ix := ix_tr (r := r) (i := ld s) (by rw [rr.len]; exact Red.ldlt hB hs) (h ++ [lds B, Z, List.replicate k (.bl true)])
          have val : at_ r (ld s) = if i = j then 1 else 0 := by
            by_cases c : i = j
            · subst c
              rw [if_pos rfl]
              have : r = s := by rw [her, hes]
              rw [this]
              exact hB.one s hs
            · rw [if_neg c]
              refine hB.off hr hs fun q => ?_
              have hlt := hB.lt
              rcases Nat.lt_or_gt_of_ne c with a | a
              · have := List.pairwise_iff_getElem.mp hlt i j (by omega) (by omega) a
                rw [← her, ← hes] at this
                omega
              · have := List.pairwise_iff_getElem.mp hlt j i (by omega) (by omega) a
                rw [← her, ← hes] at this
                omega
          rw [lcT_eq]
          simp -implicitDefEqProofs [wipeD, ix, val, pyEq_int]
          by_cases c : i = j
          · simp [c]
          · have c2 : ¬ ((i : Int) = (j : Int)) := by omega
            simp [c, c2]) turns 0 k2 (by simp; unfold turns; omega) (Nat.zero_le _)]
        simp) (by
        rw [List.length_map, List.length_zipIdx]
        exact Nat.le_trans (Nat.mul_le_mul (show B.length ≤ 200 by omega) (show B.length ≤ 200 by omega)) (by decide)) turns 0 (by simp; unfold turns; omega) (Nat.zero_le _)
    rw [Nat.zero_mul, List.length_map, List.length_zipIdx] at key
    exact key
  have sl : slice (.ptr h.length) (.int 1) .non (h ++ [lds B]) = newL (h ++ [lds B]) Z := by rw [hZ]; exact slice_fromA e1 1
  have al : builtin .all [.ptr (h.length + 2)] (h ++ [lds B, Z, List.replicate cc (.bl true)]) = .ok (.bl true) (h ++ [lds B, Z, List.replicate cc (.bl true)]) := all_rep _ _ _ (by rw [h_get]; rfl)
  have al2 : builtin .all [.ptr (h.length + 3)] (h ++ [lds B, Z, List.replicate cc (.bl true), List.replicate (B.length * B.length) (.bl true)]) = .ok (.bl true) (h ++ [lds B, Z, List.replicate cc (.bl true), List.replicate (B.length * B.length) (.bl true)]) := all_rep _ _ _ (by rw [h_get]; rfl)
  simp -implicitDefEqProofs [b15, r_leads _ hB (show B.length ≤ 1000 by omega), newL0, noneIn e1, sl, newL1, zpK_of (x := .ptr h.length) (y := .ptr (h.length + 1)) e2 e3, lc, al, enK_of (items_tb _ B), lb, al2, h_take]
end K0
-- K0g
namespace K0
open PySem Ev Ev.Rx Li
theorem bes_zip (n : Nat) : ∀ (i : Nat) (T : List Row), bes n i T = (T.zipIdx i).map fun q => q.1 ++ unit n q.2
  | _, [] => rfl
  | i, r :: T => by
    rw [List.zipIdx_cons, List.map_cons, ← bes_zip n (i + 1) T]
    rfl
theorem src_enr (h : Hh) (T : List Row) (i : Nat) (hi : i ≤ T.zipIdx.length) : srcAt h (.en (tb T)) i = some ((T.zipIdx.map fun q => D.tup [.int (q.2 : Int), tr q.1])[i]?) := by
  rw [src_enG (items_tb _ T) i (by simpa using hi)]
  unfold tbs
  rw [List.zipIdx_map, List.map_map]
  rfl
theorem tr_take (r : Row) (k : Nat) : D.tup ((intL r).take k) = tr (r.take k) := by rw [intL_take]; rfl
theorem tr_drop (r : Row) (k : Nat) : D.tup ((intL r).drop k) = tr (r.drop k) := by
  unfold tr intL
  rw [List.map_drop]
theorem sl_toR {k : Nat} {r : Row} (hk : k ≤ r.length) (h : Hh) : slice (tr r) .non (.int (k : Int)) h = .ok (tr (r.take k)) h := by
  rw [← tr_take]
  exact slice_toT (by rw [intL_len]; exact hk)
theorem sl_frR {k : Nat} {r : Row} (hk : k ≤ r.length) (h : Hh) : slice (tr r) (.int (k : Int)) .non h = .ok (tr (r.drop k)) h := by
  rw [← tr_drop]
  exact slice_fromT (by rw [intL_len]; exact hk)
theorem bi_lenB (S : List Row) (h : Hh) : builtin .len [tb S] h = .ok (.int (S.length : Int)) h := by
  rw [bi_len (items_tb h S), tbs_len]
theorem star_tr (n : Nat) (r : I) (σ : Sg) (h1 : Hh) (x : Row) : c_astar P n r σ (.ok (tr x) h1) = d_star (intL x) (ev P n r σ h1) := rfl
theorem star_tb (n : Nat) (r : I) (σ : Sg) (h1 : Hh) (x : List Row) : c_astar P n r σ (.ok (tb x) h1) = d_star (tbs x) (ev P n r σ h1) := rfl
theorem tupK_tr {a b : Row} (hl : a.length + b.length ≤ 1000000) (h : Hh) : tupK (intL a ++ intL b) h = .ok (tr (a ++ b)) h := by
  rw [tupK_of (by simp; omega), intL_app, mkT_intL]
  rfl
theorem tupK_tb {a b : List Row} (hl : a.length + b.length ≤ 1000000) (h : Hh) : tupK (tbs a ++ tbs b) h = .ok (tb (a ++ b)) h := by
  rw [tupK_of (by simp; omega), tbs_app, mkT_tbs]
theorem tup_ptr0 (S : List Row) (h : Hh) : builtin .tuple [.ptr h.length] (h ++ [tbs S]) = .ok (tb S) (h ++ [tbs S]) := by
  rw [bi_tuple (by rw [h_get0]; rfl), mkT_tbs]
theorem r_isspace (n : Nat) {p : Int} {w : Nat} {B : List Row} (hB : Red p w B) (hw : w ≤ 200) (h : Hh) : callF P (n + 70) 16 [.int p, .int (w : Int), tb B] h = .ok (.bl true) h := by
  rw [callF_at P fs16 rfl]
  have bl := red_len hB
  have lc : ∀ m, loopC (.sq (tb B)) (lcT P (m + 50) (.gv 3) (.cst (.bl true)) (.cal 3 (.acons (.var 0) (.acons (.var 1) (.acons (.var 3) .anil)))) [3] [.int p, .int (w : Int), tb B, .una]) turns 0 [] h = .oks (B.map fun _ => .bl true) h := fun m => by
    rw [lc_all B tr (fun _ => .bl true) (fun i _ => src_tb h B i) (fun r hr => by
      rw [lcT_eq]
      simp -implicitDefEqProofs [wipeD, r_row _ r (hB.rw r hr) (show w ≤ 1000 by omega)]) (by omega)]
  simp -implicitDefEqProofs [b16, isi_tup (v := tb B) rfl, show tyT (tb B) = true from rfl, sqK_of (items_tb h B), lc, newL0, bi_all0 (fun _ => true), h_take, r_isred _ hB hw]
end K0
-- K0h
namespace K0
open PySem Ev Ev.Rx Li
theorem r_reqspace (n : Nat) {p : Int} {w : Nat} {B : List Row} (hB : Red p w B) (hw : w ≤ 200) (h : Hh) : callF P (n + 80) 17 [.int p, .int (w : Int), tb B] h = .ok .non h := by
  rw [callF_at P fs17 rfl]
  simp -implicitDefEqProofs [b17, r_isspace _ hB hw, h_take0]
theorem r_reqrow (n : Nat) {p : Int} {w : Nat} {r : Row} (hr : Rw p w r) (hw : w ≤ 200) (h : Hh) : callF P (n + 40) 18 [.int p, .int (w : Int), tr r] h = .ok .non h := by
  rw [callF_at P fs18 rfl]
  simp -implicitDefEqProofs [b18, r_row _ r hr (show w ≤ 1000 by omega), h_take0]
theorem r_reqpw (n : Nat) {p : Int} (hp : Pr p) {w : Nat} (h0 : 0 < w) (hw : w ≤ 100) (h : Hh) : callF P (n + 40) 19 [.int p, .int (w : Int)] h = .ok .non h := by
  rw [callF_at P fs19 rfl]
  simp -implicitDefEqProofs [b19, r_reqprime _ p hp, cs1, r_reqwithin _ (w : Int) 1 150 (by omega) (by omega), h_take0]
theorem r_hold (n : Nat) {p : Int} (hp : Pr p) {w : Nat} (h0 : 0 < w) (hw : w ≤ 100) {B : List Row} (hB : Red p w B) {v : Row} (hv : Rw p w v) (h : Hh) : callF P (n + 90) 22 [.int p, .int (w : Int), tb B, tr v] h = .ok (.bl (decide (rest p B v = zr w))) h := by
  rw [callF_at P fs22 rfl]
  have bl := red_len hB
  simp -implicitDefEqProofs [b22, r_reqpw _ hp h0 hw, r_reqspace _ hB (show w ≤ 200 by omega), r_reqrow _ hv (show w ≤ 200 by omega), r_isin _ hp (show w ≤ 1000 by omega) hB.rw (fun r hr => Red.ldlt hB hr) (show B.length ≤ 1000 by omega) hv, h_take0]
end K0
-- K0i
namespace K0
open PySem Ev Ev.Rx Li
theorem maxL_pos : ∀ (xs : List Int) (m : Int), decide (0 < maxL m xs) = (decide (0 < m) || xs.any fun x => decide (0 < x))
  | [], m => by unfold maxL; simp
  | x :: xs, m => by
    unfold maxL
    rw [maxL_pos xs, List.any_cons, ← Bool.or_assoc]
    congr 1
    by_cases c : x > m
    · rw [if_pos c]
      by_cases d : 0 < x
      · simp [d]
      · simp [d]; omega
    · rw [if_neg c]
      by_cases d : 0 < x
      · have : 0 < m := by omega
        simp [d, this]
      · simp [d]
theorem maxL_le : ∀ (xs : List Int) (m : Int), m ≤ maxL m xs
  | [], m => by unfold maxL; omega
  | x :: xs, m => by
    unfold maxL
    have := maxL_le xs (if x > m then x else m)
    by_cases c : x > m
    · rw [if_pos c] at this ⊢; omega
    · rw [if_neg c] at this ⊢; omega
/-- max(row) -/
theorem max_tr {p : Int} {w : Nat} {r : Row} (hr : Rw p w r) (hw : 0 < w) : ∃ m : Int, (∀ h : Hh, builtin .max1 [tr r] h = .ok (.int m) h) ∧ decide (0 < m) = pos r ∧ decide (m = 0) = !pos r := by
  cases r with
  | nil => have := hr.len; simp at this; omega
  | cons x r =>
    refine ⟨maxL x r, fun h => ?_, ?_, ?_⟩
    · show (match itemsOf h (tr (x :: r)) with
        | some ds => (match intsD ds with
          | some (i :: is) => R.ok (.int (maxL i is)) h
          | _ => .no)
        | none => .no) = _
      rw [items_tr]
      dsimp only
      rw [intsD_intL]
    · rw [maxL_pos]; rfl
    · have h1 : pos (x :: r) = decide (0 < maxL x r) := by rw [maxL_pos]; rfl
      rw [h1]
      have := maxL_le r x
      have := (hr.res x (List.mem_cons_self ..)).1
      by_cases c : 0 < maxL x r
      · have : ¬ maxL x r = 0 := by omega
        simp [c, this]
      · have : maxL x r = 0 := by omega
        simp [this]
theorem rngK2 {p : Int} (hp : Pr p) (h : Hh) : rngK [.int 1, .int p] h = .osr (.rg 1 1 (p.toNat - 1)) h := by
  rcases hp with rfl | rfl | rfl | rfl <;> rfl
theorem src_rg1 {h : Hh} {lo : Int} {m i : Nat} (hi : i ≤ m) : srcAt h (.rg lo 1 m) i = some (((List.range m).map fun (j : Nat) => D.int (lo + (j : Int)))[i]?) := by
  rcases Nat.lt_or_ge i m with c | c
  · show (match Nat.blt i m with | true => some (some (D.int (lo + (i : Int) * 1))) | false => _) = _
    rw [Nat.blt_eq.mpr c, List.getElem?_map, List.getElem?_range c]
    simp
  · have : i = m := by omega
    subst this
    rw [List.getElem?_eq_none (by simp)]
    exact src_end
theorem r_lundone (n : Nat) {p x : Int} (hp : Pr p) (h0 : 0 < x) (h1 : x < p) (h : Hh) : callF P (n + 30) 26 [.int p, .int x] h = .ok (.int (iv p x)) h := by
  rw [callF_at P fs26 rfl]
  have pp := hp.pos
  have hp0 : 0 < p := by omega
  have lc : ∀ m, loopC (.rg 1 1 (p.toNat - 1)) (lcT P (m + 15) (.gv 2) (.cmp .eq (.bin .mod (.bin .mul (.var 2) (.var 1)) (.var 0)) (.cst (.int 1))) (.var 2) [2] [.int p, .int x, .una]) turns 0 [] h = .oks [.int (iv p x)] h := fun m => by
    rw [lc_sel (List.range (p.toNat - 1)) (fun (j : Nat) => D.int (1 + (j : Int))) (fun j => decide ((1 + (j : Int)) * x % p = 1)) (fun j => D.int (1 + (j : Int))) (fun i hi => src_rg1 (by simpa using hi)) (fun j hj => by
      rw [lcT_eq]
      simp -implicitDefEqProofs [wipeD, binop_mul (mulOk_r (i := 1 + (j : Int)) (show x.natAbs < 2 ^ 64 by omega)), binop_mod (posI_of hp0), pyEq_int]
      by_cases c : (1 + (j : Int)) * x % p = 1
      · left; simp [c]
      · right; simp [c]) (by simp; omega)]
    have e := iv_first hp h0 h1
    rw [List.filter_map] at e
    congr 1
    have : ((List.range (p.toNat - 1)).filter fun (j : Nat) => decide ((1 + (j : Int)) * x % p = 1)).map (fun (j : Nat) => D.int (1 + (j : Int))) = (((List.range (p.toNat - 1)).filter ((fun y => decide (y * x % p = 1)) ∘ fun (i : Nat) => (1 : Int) + i)).map fun (i : Nat) => (1 : Int) + i).map D.int := by
      rw [List.map_map]
      rfl
    rw [this, e]
    rfl
  have ix : index (.ptr h.length) (.int 0) (h ++ [[.int (iv p x)]]) = .ok (.int (iv p x)) (h ++ [[.int (iv p x)]]) := index_nat (x := .ptr h.length) (xs := [iv p x]) (j := 0) (by rw [items_ptr, h_get0]; rfl) rfl
  simp -implicitDefEqProofs [b26, rngK2 hp, lc, newL0, ix, h_take]
end K0
-- K0j
namespace K0
open PySem Ev Ev.Rx Li
def c34 : I := .cmp .gt (.blt .max1 (.acons (.var 9) .anil)) (.cst (.int 0))
def n34 : I := .cal 27 (.acons (.var 0) (.acons (.var 9) (.acons (.var 8) (.acons (.bin .sub (.cst (.int 0)) (.ix (.var 9) (.var 3))) .anil))))
def y34 : I := .sCons (.sAsg (.gv 7) (.cal 26 (.acons (.var 0) (.acons (.ix (.ix (.var 6) (.cst (.int 0))) (.var 3)) .anil)))) (.sCons (.sAsg (.gv 8) (.blt .tuple (.acons (.lc (.gv 10) (.iS (.ix (.var 6) (.cst (.int 0)))) (.cst (.bl true)) (.bin .mod (.bin .mul (.var 7) (.var 10)) (.var 0)) [10]) .anil))) (.sCons (.sAsg (.gv 4) (.lc (.gv 9) (.iS (.var 4)) (.cst (.bl true)) n34 [9])) (.sCons (.sAsg (.gv 4) (.lc (.gv 9) (.iS (.var 4)) c34 (.var 9) [9])) (.sCons (.sAsg (.gv 5) (.bin .add (.lc (.gv 9) (.iS (.var 5)) (.cst (.bl true)) n34 [9]) (.lst (.acons (.var 8) .anil)))) .sNil))))
def w34 : I := .sCons (.sAsg (.gv 6) (.lc (.gv 9) (.iS (.var 4)) (.cmp .gt (.ix (.var 9) (.var 3)) (.cst (.int 0))) (.var 9) [9])) (.sCons (.sIf (.cmp .ne (.var 6) (.lst .anil)) y34 .sNil) .sNil)
theorem b34_eq : b28 = .sCons (.sPar2 4 5 (.lc (.gv 9) (.iS (.var 1)) c34 (.var 9) [9]) (.lst .anil)) (.sCons (.sFor (.gv 3) (.iR (.acons (.var 2) .anil)) w34) (.sCons (.sRet (.blt .tuple (.acons (.var 5) .anil))) .sNil)) := rfl
theorem lc_pos (m : Nat) {p : Int} {w : Nat} (hw : 0 < w) {S : List Row} (hS : Rws p w S) (sl : S.length ≤ 1000) (x : D) (u0 u1 u2 u3 u4 u5 u6 u7 u8 u9 u10 : D) (h : Hh) (ex : itemsOf h x = some (tbs S)) :
    loopC (.sq x) (lcT P (m + 15) (.gv 9) c34 (.var 9) [9] [u0, u1, u2, u3, u4, u5, u6, u7, u8, u9, u10]) turns 0 [] h = .oks (tbs (S.filter pos)) h := by
  rw [lc_sel S tr pos tr (fun i _ => Ev.Rx.src_sq ex i) (fun r hr => by
    obtain ⟨g, e1, e2, _⟩ := max_tr (hS r hr) hw
    rw [lcT_eq]
    simp -implicitDefEqProofs [wipeD, c34, e1]
    rw [← e2]
    by_cases c : 0 < g
    · left; simp [c]
    · right; first | (simp [c]; done) | (simp [c]; omega)) (by omega)]
  rfl
theorem lc_at (m : Nat) {p : Int} {w i : Nat} (hi : i < w) {S : List Row} (hS : Rws p w S) (sl : S.length ≤ 1000) (x : D) (u0 u1 u2 u4 u5 u6 u7 u8 u9 u10 : D) (h : Hh) (ex : itemsOf h x = some (tbs S)) :
    loopC (.sq x) (lcT P (m + 15) (.gv 9) (.cmp .gt (.ix (.var 9) (.var 3)) (.cst (.int 0))) (.var 9) [9] [u0, u1, u2, .int (i : Int), u4, u5, u6, u7, u8, u9, u10]) turns 0 [] h = .oks (tbs (S.filter fun r => decide (0 < at_ r i))) h := by
  rw [lc_sel S tr (fun r => decide (0 < at_ r i)) tr (fun i _ => Ev.Rx.src_sq ex i) (fun r hr => by
    have ix := ix_tr (r := r) (i := i) (by rw [(hS r hr).len]; exact hi) h
    rw [lcT_eq]
    simp -implicitDefEqProofs [wipeD, ix]
    by_cases c : 0 < at_ r i
    · left; simp [c]
    · right; first | (simp [c]; done) | (simp [c]; omega)) (by omega)]
  rfl
theorem lc_ln (m : Nat) {p : Int} (hp : Pr p) {w i : Nat} (hi : i < w) (hw : w ≤ 1000) {S : List Row} (hS : Rws p w S) (sl : S.length ≤ 1000) {t : Row} (ht : Rw p w t) (x : D) (u1 u2 u4 u5 u6 u7 u9 u10 : D) (h : Hh) (ex : itemsOf h x = some (tbs S)) :
    loopC (.sq x) (lcT P (m + 35) (.gv 9) (.cst (.bl true)) n34 [9] [.int p, u1, u2, .int (i : Int), u4, u5, u6, u7, tr t, u9, u10]) turns 0 [] h = .oks (tbs (S.map fun r => ad p r t (0 - at_ r i))) h := by
  have hp0 : 0 < p := by have := hp.pos; omega
  rw [lc_all S tr (fun r => tr (ad p r t (0 - at_ r i))) (fun i _ => Ev.Rx.src_sq ex i) (fun r hr => by
    have rr := hS r hr
    have sm := at_small hp rr i
    have ix := ix_tr (r := r) (i := i) (by rw [rr.len]; exact hi) h
    have ra := fun m => r_plus m p (-(at_ r i)) hp0 (by omega) r t h (rr.len.trans ht.len.symm) (by rw [rr.len]; omega)
    rw [lcT_eq, Int.zero_sub]
    simp -implicitDefEqProofs [wipeD, n34, ix, ra]) (by omega)]
  unfold tbs
  rw [List.map_map]
  rfl
theorem ix0 {a : Nat} {z : Row} {S : List Row} {h : Hh} (e : h[a]? = some (tbs (z :: S))) : index (.ptr a) (.int 0) h = .ok (tr z) h := index_at (x := .ptr a) (j := 0) e rfl rfl
theorem ap_get {h : Hh} {a : Nat} {d : List D} (e : h[a]? = some d) (l : Hh) : (h ++ l)[a]? = some d := by
  rw [List.getElem?_append_left (List.getElem?_eq_some_iff.mp e).1, e]
/-- one place -/
theorem st34 (m : Nat) {p : Int} (hp : Pr p) {w i : Nat} (hi : i < w) (hw : w ≤ 1000) {L F : List Row} (hL : Rws p w L) (hF : Rws p w F) (ll : L.length ≤ 900) (fl : F.length ≤ 900) (x : D) (l f : Nat) (h : Hh) (el : h[l]? = some (tbs L)) (ef : h[f]? = some (tbs F)) (u6 u7 u8 u9 u10 : D) :
    ∃ l' f' v6 v7 v8 t, ev P (m + 60) w34 [.int p, x, .int (w : Int), .int (i : Int), .ptr l, .ptr f, u6, u7, u8, u9, u10] h = .nx [.int p, x, .int (w : Int), .int (i : Int), .ptr l', .ptr f', v6, v7, v8, u9, u10] (h ++ t) ∧
      (h ++ t)[l']? = some (tbs (place p (iv p) (L, F) i).1) ∧ (h ++ t)[f']? = some (tbs (place p (iv p) (L, F) i).2) := by
  have pp := hp.pos
  have hp0 : 0 < p := by omega
  have la := fun m => lc_at m hi hL (by omega) (.ptr l) (.int p) x (.int (w : Int)) (.ptr l) (.ptr f) u6 u7 u8 u9 u10 h el
  have e1 : ∀ S1 : List Row, (h ++ [tbs S1, tbs []])[h.length]? = some (tbs S1) := fun S1 => by rw [h_get0]; rfl
  have e2 : ∀ S1 : List Row, (h ++ [tbs S1, tbs []])[h.length + 1]? = some (tbs []) := fun S1 => by rw [h_get]; rfl
  have pe := fun S1 : List Row => pyEq_lrows (e1 S1) (e2 S1)
  have nl : ∀ hh : Hh, lstK [] hh = newL hh (tbs []) := fun _ => rfl
  unfold place
  dsimp only
  cases hs : L.filter (fun r => decide (0 < at_ r i)) with
  | nil =>
    rw [hs] at la
    refine ⟨l, f, .ptr h.length, u7, u8, [tbs [], tbs []], ?_, ap_get el _, ap_get ef _⟩
    simp -implicitDefEqProofs [w34, sqK_of (x := .ptr l) el, la, newL0, nl, newL1, pe]
  | cons z S =>
    rw [hs] at la
    dsimp only
    have zm : z ∈ L.filter (fun r => decide (0 < at_ r i)) := by rw [hs]; exact List.mem_cons_self ..
    obtain ⟨zL, zp⟩ := List.mem_filter.mp zm
    have zp := of_decide_eq_true zp
    have rz := hL z zL
    have z1 := (rz.at hp0 i).2
    have un := fun m hh => r_lundone m hp zp z1 hh
    obtain ⟨_, _, sm⟩ := iv_get hp zp z1
    have i1 := fun hh => ix_tr (r := z) (i := i) (by rw [rz.len]; exact hi) hh
    generalize hc : iv p (at_ z i) = c at *
    have tz : Rw p w (sc p c z) := by rw [sc_ad rz.len]; exact (Rw.zr hp0 w).ad hp0 rz.len c
    have e10 : ∀ q : Hh, (h ++ (tbs (z :: S) :: q))[h.length]? = some (tbs (z :: S)) := fun q => by rw [h_get0]; rfl
    have lsc : ∀ m u1 u2 u3 u4 u5 u6 u8 u9 u10 (hh : Hh), loopC (.sq (tr z)) (lcT P (m + 15) (.gv 10) (.cst (.bl true)) (.bin .mod (.bin .mul (.var 7) (.var 10)) (.var 0)) [10] [.int p, u1, u2, u3, u4, u5, u6, .int c, u8, u9, u10]) turns 0 [] hh = .oks (intL (sc p c z)) hh := fun m u1 u2 u3 u4 u5 u6 u8 u9 u10 hh =>
      lc_ints z (fun y => c * y % p) (fun i _ => rfl) (fun y _ => by
        rw [lcT_eq]
        simp -implicitDefEqProofs [wipeD, binop_mul (mulOk_l (show c.natAbs < 2 ^ 64 by omega)), binop_mod (posI_of hp0)]) (by rw [rz.len]; omega)
    generalize htt : sc p c z = t at *
    have f1 : ∀ q : Hh, (h ++ (tbs (z :: S) :: tbs [] :: intL t :: q))[h.length + 2]? = some (intL t) := fun q => by rw [h_get]; rfl
    have tt := fun q => (bi_tuple (f1 q)).trans (by rw [mkT_intL])
    generalize hL1 : (L.map fun r => ad p r t (0 - at_ r i)) = L1
    generalize hF1 : (F.map fun r => ad p r t (0 - at_ r i)) = F1
    have rL1 : Rws p w L1 := fun s hs => by
      rw [← hL1] at hs
      obtain ⟨r, hr, rfl⟩ := List.mem_map.mp hs
      exact (hL r hr).ad hp0 tz.len _
    have l1 : L1.length = L.length := by rw [← hL1, List.length_map]
    have l2 : F1.length = F.length := by rw [← hF1, List.length_map]
    have g0 : ∀ q : Hh, (h ++ q)[l]? = some (tbs L) := fun q => ap_get el q
    have g0f : ∀ q : Hh, (h ++ q)[f]? = some (tbs F) := fun q => ap_get ef q
    have ln1 := fun m u1 u2 u4 u5 u6 u7 u9 u10 (q : Hh) => lc_ln m hp hi hw hL (by omega) tz (.ptr l) u1 u2 u4 u5 u6 u7 u9 u10 (h ++ q) (g0 q)
    have ln2 := fun m u1 u2 u4 u5 u6 u7 u9 u10 (q : Hh) => lc_ln m hp hi hw hF (by omega) tz (.ptr f) u1 u2 u4 u5 u6 u7 u9 u10 (h ++ q) (g0f q)
    rw [hL1] at ln1
    rw [hF1] at ln2
    have g3 : ∀ q : Hh, (h ++ (tbs (z :: S) :: tbs [] :: intL t :: tbs L1 :: q))[h.length + 3]? = some (tbs L1) := fun q => by rw [h_get]; rfl
    have lp := fun m u0 u1 u2 u3 u4 u5 u6 u7 u8 u9 u10 (q : Hh) => lc_pos m (show 0 < w by omega) rL1 (by omega) (.ptr (h.length + 3)) u0 u1 u2 u3 u4 u5 u6 u7 u8 u9 u10 _ (g3 q)
    generalize hL2 : L1.filter pos = L2 at *
    have g5 : ∀ q : Hh, (h ++ (tbs (z :: S) :: tbs [] :: intL t :: tbs L1 :: tbs L2 :: tbs F1 :: q))[h.length + 5]? = some (tbs F1) := fun q => by rw [h_get]; rfl
    have g6 : ∀ q : Hh, (h ++ (tbs (z :: S) :: tbs [] :: intL t :: tbs L1 :: tbs L2 :: tbs F1 :: [tr t] :: q))[h.length + 6]? = some [tr t] := fun q => by rw [h_get]; rfl
    have ad1 : binop .add (.ptr (h.length + 5)) (.ptr (h.length + 6)) (h ++ [tbs (z :: S), tbs [], intL t, tbs L1, tbs L2, tbs F1, [tr t]]) = newL (h ++ [tbs (z :: S), tbs [], intL t, tbs L1, tbs L2, tbs F1, [tr t]]) (tbs (F1 ++ [t])) := by
      rw [bin_addL (g5 _) (g6 _) (by simp; omega), ← tbs_app]
      rfl
    have lk : ∀ hh : Hh, lstK [tr t] hh = newL hh [tr t] := fun _ => rfl
    have sq1 := fun q => sqK_of (x := .ptr l) (g0 q)
    have sq2 := fun q => sqK_of (x := .ptr f) (g0f q)
    have sq3 := fun q => sqK_of (x := .ptr (h.length + 3)) (g3 q)
    refine ⟨h.length + 4, h.length + 7, .ptr h.length, .int c, tr t, [tbs (z :: S), tbs [], intL t, tbs L1, tbs L2, tbs F1, [tr t], tbs (F1 ++ [t])], ?_, by rw [h_get]; rfl, by rw [h_get]; rfl⟩
    have pe2 := pe (z :: S)
    have x0 := fun q => ix0 (e10 q)
    simp -implicitDefEqProofs [w34, sqK_of (x := .ptr l) el, la, newL0, nl, newL1, pe2, y34, x0, i1, un, sqK_of (items_tr _ z), lsc, tt, sq1, sq2, sq3, ln1, ln2, lp, lk, ad1, tr_mk]
end K0
-- K0k
namespace K0
open PySem Ev Ev.Rx Li
theorem r_lbase (n : Nat) {p : Int} (hp : Pr p) {w : Nat} (w0 : 0 < w) (hw : w ≤ 900) {S : List Row} (hS : Rws p w S) (sl : S.length ≤ 900) (x : D) (h : Hh) (kx : isUna x = false) (ex : itemsOf h x = some (tbs S)) :
    callF P (n + 80) 28 [.int p, x, .int (w : Int)] h = .ok (tb (base p (iv p) S w)) h := by
  rw [callF_at P fs28 rfl]
  have pp := hp.pos
  have ky := base_key pp.1 (inv_iv hp) hS
  have lp : ∀ m, ∃ u : D × D × D × D × Nat × Nat × Hh, loopF (.rg 0 1 w) (forT P (m + 60) (.gv 3) w34) turns 0 [.int p, x, .int (w : Int), .una, .ptr h.length, .ptr (h.length + 1), .una, .una, .una, .una, .una] (h ++ [tbs (S.filter pos), tbs []]) = .nx [.int p, x, .int (w : Int), u.1, .ptr u.2.2.2.2.1, .ptr u.2.2.2.2.2.1, u.2.1, u.2.2.1, u.2.2.2.1, .una, .una] (h ++ u.2.2.2.2.2.2) ∧ (h ++ u.2.2.2.2.2.2)[u.2.2.2.2.2.1]? = some (tbs (base p (iv p) S w)) := fun m => by
    obtain ⟨σ', h', e, u3, u6, u7, u8, l, f, q, e1, e2, e3, e4⟩ := loopF_inv (s := .rg 0 1 w) (f := forT P (m + 60) (.gv 3) w34)
      (fun i σ hh => ∃ u3 u6 u7 u8 l f q, σ = [.int p, x, .int (w : Int), u3, .ptr l, .ptr f, u6, u7, u8, .una, .una] ∧ hh = h ++ q ∧ (h ++ q)[l]? = some (tbs ((List.range i).foldl (place p (iv p)) (S.filter pos, [])).1) ∧ (h ++ q)[f]? = some (tbs ((List.range i).foldl (place p (iv p)) (S.filter pos, [])).2)) w
      (fun i σ hh hi ⟨u3, u6, u7, u8, l, f, q, e1, e2, e3, e4⟩ => by
        subst e1 e2
        have B := ky i (by omega)
        have ll := fold_place_len p (iv p) (List.range i) (S.filter pos, [])
        dsimp only at ll
        have fl := red_len B.red
        have l0 : (S.filter pos).length ≤ S.length := List.length_filter_le ..
        obtain ⟨l', f', v6, v7, v8, t, r1, r2, r3⟩ := st34 m hp hi (by omega) B.lft B.red.rw (by omega) (by omega) x l f (h ++ q) e3 e4 u6 u7 u8 .una .una
        refine ⟨.int (i : Int), [.int p, x, .int (w : Int), .int (i : Int), .ptr l', .ptr f', v6, v7, v8, .una, .una], h ++ q ++ t, ?_, .inl ?_, .int (i : Int), v6, v7, v8, l', f', q ++ t, rfl, List.append_assoc .., ?_, ?_⟩
        · have := src_rg0 (h := h ++ q) (m := w) (i := i) (by omega)
          rw [this, List.getElem?_map, List.getElem?_range hi]
          rfl
        · exact r1
        · rw [List.range_succ, List.foldl_append, ← List.append_assoc]
          exact r2
        · rw [List.range_succ, List.foldl_append, ← List.append_assoc]
          exact r3)
      (fun σ hh _ => src_end) turns 0 _ _ (by unfold turns; omega) (Nat.zero_le _) ⟨.una, .una, .una, .una, h.length, h.length + 1, [tbs (S.filter pos), tbs []], rfl, rfl, by rw [h_get0]; rfl, by rw [h_get]; rfl⟩
    exact ⟨(u3, u6, u7, u8, l, f, q), e.trans (by rw [e1, e2]), e4⟩
  obtain ⟨u, lp⟩ := pick1 lp
  have l1 := fun m => (lp m).1
  have e0 := fun m u2 u3 u4 u5 u6 u7 u8 u9 u10 => lc_pos m w0 hS (by omega) x (.int p) x u2 u3 u4 u5 u6 u7 u8 u9 u10 h ex
  have nl : ∀ hh : Hh, lstK [] hh = newL hh (tbs []) := fun _ => rfl
  have tt := fun m => (bi_tuple (lp m).2).trans (by rw [mkT_tbs])
  rw [b34_eq]
  simp -implicitDefEqProofs [kx, sqK_of ex, e0, newL0, nl, rngK1 (show w ≤ 1000000 by omega), l1, tt, h_take]
/-- the place of the first 1 -/
theorem idx_ld : ∀ {r : Row}, at_ r (ld r) = 1 → idxO 1 r = some (ld r)
  | [], h => by cases h
  | x :: r, h => by
    unfold idxO
    unfold ld at h ⊢
    cases c : decide (x = 0) with
    | true =>
      rw [c] at h
      have := of_decide_eq_true c
      subst this
      dsimp only
      have ih := idx_ld (r := r) h
      rw [ih]
      rfl
    | false =>
      rw [c] at h
      have h : x = 1 := h
      subst h
      rfl
theorem idx_tr {r : Row} (h1 : at_ r (ld r) = 1) (h : Hh) : idxK (tr r) (.int 1) h = .ok (.int (ld r : Int)) h := by
  show (match intsD (intL r) with
    | some is => (match idxO 1 is with
      | some i => R.ok (.int (i : Int)) h
      | none => .no)
    | none => .no) = _
  rw [intsD_intL]
  dsimp only
  rw [idx_ld h1]
theorem r_lhas (n : Nat) {p : Int} (hp : Pr p) {w : Nat} (w0 : 0 < w) (hw : w ≤ 900) {B : List Row} (hB : Red p w B) {v : Row} (hv : Rw p w v) (h : Hh) :
    callF P (n + 50) 30 [.int p, tb B, tr v] h = .ok (.bl (decide (rest p B v = zr w))) h := by
  rw [callF_at P fs30 rfl]
  have pp := hp.pos
  have hp0 : 0 < p := by omega
  have bl := red_len hB
  have lp : ∀ m, ∃ u : D, loopF (.sq (tb B)) (forT P (m + 40) (.gv 3) (.sCons (.sAsg (.gv 2) (.cal 27 (.acons (.var 0) (.acons (.var 2) (.acons (.var 3) (.acons (.bin .sub (.cst (.int 0)) (.ix (.var 2) (.idx (.var 3) (.cst (.int 1))))) .anil)))))) .sNil)) turns 0 [.int p, tb B, tr v, .una] h = .nx [.int p, tb B, tr (rest p B v), u] h := fun m => by
    obtain ⟨σ', h', e, ⟨u3, e1⟩, e2⟩ := loopF_inv (s := .sq (tb B)) (f := forT P (m + 40) (.gv 3) (.sCons (.sAsg (.gv 2) (.cal 27 (.acons (.var 0) (.acons (.var 2) (.acons (.var 3) (.acons (.bin .sub (.cst (.int 0)) (.ix (.var 2) (.idx (.var 3) (.cst (.int 1))))) .anil)))))) .sNil))
      (fun i σ hh => (∃ u3, σ = [.int p, tb B, tr (rest p (B.take i) v), u3]) ∧ hh = h) B.length
      (fun i σ hh hi ⟨⟨u3, e1⟩, e2⟩ => by
        subst e1 e2
        have hm := List.getElem_mem hi
        have rr := hB.rw _ hm
        have rz : Rw p w (rest p (B.take i) v) := rest_rw hp0 (fun s hs => hB.rw s (List.mem_of_mem_take hs)) hv
        have ll := Red.ldlt hB hm
        have st : rest p (B.take (i + 1)) v = Li.step p (rest p (B.take i) v) B[i] := foldl_take (Li.step p) v hi
        have ix := ix_tr (r := rest p (B.take i) v) (i := ld B[i]) (by rw [rz.len]; exact ll) hh
        have ra := fun m => r_plus m p _ hp0 (neg_small hp rz (ld B[i])) (rest p (B.take i) v) B[i] hh (rz.len.trans rr.len.symm) (by rw [rz.len]; omega)
        refine ⟨tr B[i], [.int p, tb B, tr (rest p (B.take (i + 1)) v), tr B[i]], hh, ?_, .inl ?_, ⟨_, rfl⟩, rfl⟩
        · rw [Ev.Rx.src_sq (items_tb hh B), tbs_get, List.getElem?_eq_getElem hi]
          rfl
        · simp -implicitDefEqProofs [idx_tr (hB.one _ hm), ix, ra, st, Li.step])
      (fun σ hh ⟨⟨u3, e1⟩, e2⟩ => by
        rw [Ev.Rx.src_sq (items_tb hh B), tbs_get, List.getElem?_eq_none (Nat.le_refl _)]
        rfl) turns 0 _ h (by unfold turns; omega) (Nat.zero_le _) ⟨⟨.una, rfl⟩, rfl⟩
    rw [List.take_of_length_le (Nat.le_refl _)] at e1
    exact ⟨u3, e.trans (by rw [e1, e2])⟩
  obtain ⟨u, lp⟩ := pick1 lp
  have rz : Rw p w (rest p B v) := rest_rw hp0 hB.rw hv
  obtain ⟨g, g1, g2, g3⟩ := max_tr rz w0
  have ef : decide (g = 0) = decide (rest p B v = zr w) := by
    rw [g3]
    have := pos_iff hp0 rz
    cases c : pos (rest p B v) with
    | true => rw [c] at this; simp at this; simp [this]
    | false => rw [c] at this; simp at this; simp [this]
  simp -implicitDefEqProofs [b30, sqK_of (items_tb h B), lp, g1, pyEq_int, h_take0]
  exact decide_eq_decide.mp ef
end K0
-- K0l
namespace K0
open PySem Ev Ev.Rx Li
/-- a comprehension that changes the heap -/
theorem loopC_inv {s : Src} {f : D → Hh → R} (St : Nat → List D → Hh → Prop) (n : Nat)
    (step : ∀ i acc h, i < n → St i acc h → ∃ d y h', srcAt h s i = some (some d) ∧ f d h = .ok y h' ∧ St (i + 1) (acc ++ [y]) h')
    (done : ∀ acc h, St n acc h → srcAt h s n = some none) (hn : n < 1000000) :
    ∀ (m i : Nat) (acc : List D) (h : Hh), n < m + i → i ≤ n → acc.length = i → St i acc.reverse h → ∃ ds h', loopC s f m i acc h = .oks ds h' ∧ St n ds h'
  | 0, i, acc, h, h1, h2, _, _ => by omega
  | m + 1, i, acc, h, h1, h2, h3, st => by
    unfold loopC
    rcases Nat.lt_or_ge i n with hi | hi
    · obtain ⟨d, y, h', e1, e2, st'⟩ := step i _ h hi st
      rw [e1]
      dsimp only
      rw [e2]
      dsimp only
      exact loopC_inv St n step done hn m (i + 1) (y :: acc) h' (by omega) (by omega) (by simp [h3]) (by simpa using st')
    · have e : i = n := by omega
      subst e
      rw [done _ h st]
      have e : Nat.ble acc.length line = true := Nat.ble_eq.mpr (by unfold line; omega)
      dsimp only
      rw [e]
      exact ⟨_, _, rfl, st⟩
theorem bi_tupR (r : Row) (h : Hh) : builtin .tuple [tr r] h = .ok (tr r) h := rfl
theorem add_tr {a b : Row} (hl : a.length + b.length ≤ 1000000) (h : Hh) : binop .add (tr a) (tr b) h = .ok (tr (a ++ b)) h := by
  have := bin_addT (ds := intL a) (es := intL b) (by simpa using hl) h
  rw [intL_app] at this
  exact this
def e37 : I := .bin .add (.blt .tuple (.acons (.var 7) .anil)) (.blt .tuple (.acons (.lc (.gv 8) (.iR (.acons (.var 3) .anil)) (.cst (.bl true)) (.blt .int (.acons (.cmp .eq (.var 6) (.var 8)) .anil)) [8]) .anil))
theorem t37 (m : Nat) {w n i : Nat} (hn : n ≤ 500) {r : Row} (hr : r.length = w) (hw : w ≤ 500) (u0 u1 u2 u4 u5 u6 u7 u8 : D) (h : Hh) :
    lcT P (m + 40) (.gt (.gcons (.gv 6) (.gcons (.gv 7) .gnil))) (.cst (.bl true)) e37 [6, 7] [u0, u1, u2, .int (n : Int), u4, u5, u6, u7, u8] (.tup [.int (i : Int), tr r]) h = .ok (tr (r ++ unit n i)) (h ++ [intL (unit n i)]) := by
  have lc : ∀ m u0 u1 u2 u4 u5 u7 u8, loopC (.rg 0 1 n) (lcT P (m + 10) (.gv 8) (.cst (.bl true)) (.blt .int (.acons (.cmp .eq (.var 6) (.var 8)) .anil)) [8] [u0, u1, u2, .int (n : Int), u4, u5, .int (i : Int), u7, u8]) turns 0 [] h = .oks (intL (unit n i)) h := fun m u0 u1 u2 u4 u5 u7 u8 => by
    rw [loopC_map (fun d => match d with | .int j => .int (if (i : Int) = j then 1 else 0) | d => d) ((List.range n).map fun (j : Nat) => D.int (j : Int)) (fun k hk => src_rg0 (by simpa using hk)) (fun x hx => by
      obtain ⟨y, hy, rfl⟩ := List.mem_map.mp hx
      rw [lcT_eq]
      simp -implicitDefEqProofs [wipeD, pyEq_int]) (by simp; omega), ← unitP_eq]
    unfold unitP intL
    rw [List.map_map, List.map_map]
    congr 1
    refine List.map_congr_left fun j _ => ?_
    show D.int (if (i : Int) = (j : Int) then 1 else 0) = D.int (if (j : Int) = (i : Int) then 1 else 0)
    by_cases c : (i : Int) = (j : Int)
    · rw [if_pos c, if_pos c.symm]
    · rw [if_neg c, if_neg fun q => c q.symm]
  have tt : builtin .tuple [.ptr h.length] (h ++ [intL (unit n i)]) = .ok (tr (unit n i)) (h ++ [intL (unit n i)]) := by
    rw [bi_tuple (by rw [h_get0]; rfl), mkT_intL]; rfl
  rw [lcT_eq]
  simp -implicitDefEqProofs [wipeD, e37, bi_tupR, rngK1 (show n ≤ 1000000 by omega), lc, newL0, tt, add_tr (show r.length + (unit n i).length ≤ 1000000 by rw [hr, unit_len]; omega)]
theorem lc37 (m : Nat) {p : Int} {w : Nat} {T : List Row} (hT : Rws p w T) (tl : T.length ≤ 500) (hw : w ≤ 500) (a : Nat) (u0 u1 u2 u4 u5 u6 u7 u8 : D) (h : Hh) (ea : h[a]? = some (tbs T)) :
    ∃ q, loopC (.en (.ptr a)) (lcT P (m + 40) (.gt (.gcons (.gv 6) (.gcons (.gv 7) .gnil))) (.cst (.bl true)) e37 [6, 7] [u0, u1, u2, .int (T.length : Int), u4, u5, u6, u7, u8]) turns 0 [] h = .oks (tbs (beside T)) (h ++ q) := by
  obtain ⟨ds, h', e, q, e1, e2⟩ := loopC_inv (s := .en (.ptr a)) (f := lcT P (m + 40) (.gt (.gcons (.gv 6) (.gcons (.gv 7) .gnil))) (.cst (.bl true)) e37 [6, 7] [u0, u1, u2, .int (T.length : Int), u4, u5, u6, u7, u8])
    (fun i acc hh => ∃ q, hh = h ++ q ∧ acc = (tbs (beside T)).take i) T.length
    (fun i acc hh hi ⟨q, e1, e2⟩ => by
      subst e1 e2
      have src : srcAt (h ++ q) (.en (.ptr a)) i = some (some (.tup [.int (i : Int), tr T[i]])) := by
        rw [src_enG (x := .ptr a) (ap_get ea q) i (by rw [tbs_len]; omega), List.getElem?_map, List.getElem?_zipIdx, tbs_get, List.getElem?_eq_getElem hi]
        simp [mkT]
      refine ⟨_, _, _, src, t37 m tl (hT _ (List.getElem_mem hi)).len hw u0 u1 u2 u4 u5 u6 u7 u8 _, q ++ [intL (unit T.length i)], List.append_assoc .., ?_⟩
      have hb : (beside T)[i]? = some (T[i] ++ unit T.length i) := by
        unfold beside
        rw [bes_zip, List.getElem?_map, List.getElem?_zipIdx, List.getElem?_eq_getElem hi]
        simp
      rw [List.take_add_one, tbs_get, hb]
      rfl)
    (fun acc hh ⟨q, e1, e2⟩ => by
      subst e1
      rw [src_enG (x := .ptr a) (ap_get ea q) T.length (by rw [tbs_len]; omega), List.getElem?_eq_none (by simp)]) (by omega) turns 0 [] h (by unfold turns; omega) (Nat.zero_le _) rfl ⟨[], by simp, rfl⟩
  rw [List.take_of_length_le (by rw [tbs_len]; unfold beside; rw [bes_len]; omega)] at e2
  exact ⟨q, by rw [e, e1, e2]⟩
end K0
-- K0n
namespace K0
open PySem Ev Ev.Rx Li
abbrev K3 : Type := Int × Int × Int
def kl (k : K3) : List D := intL [k.1, k.2.1, k.2.2]
def lad (k : K3) (t : Int) : Int × K3 :=
  if 0 < k.1 then (k.1 % t, (k.1 / t, k.2.1, k.2.2))
  else (((k.2.1 + 1000423 * (k.2.2 + 1)) % 2305843009213693973 * ((k.2.1 + 1000423 * (k.2.2 + 1)) % 2305843009213693973) % 2305843009213693951 * ((k.2.1 + 1000423 * (k.2.2 + 1)) % 2305843009213693973) + 6947 * (k.2.2 + 1)) % 2305843009213693867 / 16384 % t, (k.1, k.2.1, k.2.2 + 1))
theorem lad_rng {t : Int} (ht : 0 < t) (k : K3) : 0 ≤ (lad k t).1 ∧ (lad k t).1 < t := by
  unfold lad
  split
  · exact ⟨Int.emod_nonneg _ (by omega), Int.emod_lt_of_pos _ ht⟩
  · exact ⟨Int.emod_nonneg _ (by omega), Int.emod_lt_of_pos _ ht⟩
theorem take_set (h : Hh) (a : Nat) (d : List D) : (h.set a d).take h.length = h.set a d := by
  rw [List.take_of_length_le]; simp
theorem mul_k {k : Int} (hk : k.natAbs < 2 ^ 64) (i : Int) (h : Hh) : binop .mul (.int k) (.int i) h = .ok (.int (k * i)) h := binop_mul (mulOk_l hk) h
theorem mul_r {k : Int} (hk : k.natAbs < 2 ^ 64) (i : Int) (h : Hh) : binop .mul (.int i) (.int k) h = .ok (.int (i * k)) h := binop_mul (mulOk_r hk) h
theorem set3 {a : Nat} {ds : List D} {h : Hh} (e : h[a]? = some ds) {j : Nat} (hj : j < ds.length) (σ : Sg) (v : Int) : augXK (.ptr a) (.int (j : Int)) σ (.int v) h = .nx σ (h.set a (ds.set j (.int v))) := by
  have e2 : setAt (.ptr a) (.int (j : Int)) (.int v) h = some (h.set a (ds.set j (.int v))) := by
    show (match h[a]? with
      | some ds => (match ixN ds.length (j : Int) with
        | some j => (match isPtr (.int v) with
          | true => none
          | false => some (h.set a (ds.set j (.int v))))
        | none => none)
      | none => none) = _
    rw [e]
    dsimp only
    rw [ixN_nat hj]
    rfl
  unfold augXK
  rw [e2]
theorem set3_0 {a : Nat} {k : K3} {h : Hh} (e : h[a]? = some (kl k)) (σ : Sg) (v : Int) : augXK (.ptr a) (.int 0) σ (.int v) h = .nx σ (h.set a (kl (v, k.2.1, k.2.2))) := set3 (j := 0) e (by simp [kl]) σ v
theorem set3_2 {a : Nat} {k : K3} {h : Hh} (e : h[a]? = some (kl k)) (σ : Sg) (v : Int) : augXK (.ptr a) (.int 2) σ (.int v) h = .nx σ (h.set a (kl (k.1, k.2.1, v))) := set3 (j := 2) e (by simp [kl]) σ v
theorem ix3_0 {a : Nat} {k : K3} {h : Hh} (e : h[a]? = some (kl k)) : index (.ptr a) (.int 0) h = .ok (.int k.1) h := index_nat (j := 0) (x := .ptr a) e rfl
theorem ix3_1 {a : Nat} {k : K3} {h : Hh} (e : h[a]? = some (kl k)) : index (.ptr a) (.int 1) h = .ok (.int k.2.1) h := index_nat (j := 1) (x := .ptr a) e rfl
theorem ix3_2 {a : Nat} {k : K3} {h : Hh} (e : h[a]? = some (kl k)) : index (.ptr a) (.int 2) h = .ok (.int k.2.2) h := index_nat (j := 2) (x := .ptr a) e rfl
theorem get_set {a : Nat} {ds : List D} {h : Hh} (e : h[a]? = some ds) (es : List D) : (h.set a es)[a]? = some es := by
  have := (List.getElem?_eq_some_iff.mp e).1
  simp [this]
theorem r_ladle (m : Nat) (k : K3) {t : Int} (ht : 0 < t) (ht2 : t.natAbs < 2 ^ 60) (a : Nat) (h : Hh) (e : h[a]? = some (kl k)) :
    callF P (m + 40) 24 [.ptr a, .int t] h = .ok (.int (lad k t).1) (h.set a (kl (lad k t).2)) := by
  rw [callF_at P fs24 rfl]
  unfold lad
  by_cases c : 0 < k.1
  · rw [if_pos c]
    simp -implicitDefEqProofs [b24, ix3_0 e, c, binop_mod (posI_of ht), binop_fdiv (divOk_of ht (by omega)), set3_0 e, take_set]
  · rw [if_neg c]
    obtain ⟨v1, q1⟩ : ∃ v1, v1 = (k.2.1 + 1000423 * (k.2.2 + 1)) % 2305843009213693973 := ⟨_, rfl⟩
    have b1 : 0 ≤ v1 ∧ v1 < 2305843009213693973 := by rw [q1]; exact ⟨Int.emod_nonneg _ (by decide), Int.emod_lt_of_pos _ (by decide)⟩
    have e1 := get_set e (kl (k.1, k.2.1, k.2.2 + 1))
    rw [← q1]
    simp -implicitDefEqProofs [b24, ix3_0 e, ix3_2 e, c, set3_2 e, ix3_1 e1, ix3_2 e1, mul_k (k := 1000423) (by decide), mul_k (k := 6947) (by decide), binop_mod (posI_of (j := 2305843009213693973) (by decide)), ← q1, mul_k (k := v1) (by omega), mul_r (k := v1) (by omega), binop_mod (posI_of (j := 2305843009213693951) (by decide)), binop_mod (posI_of (j := 2305843009213693867) (by decide)), binop_fdiv (divOk_of (j := 16384) (by decide) (by decide)), binop_mod (posI_of ht), take_set]
theorem r_ladS (m : Nat) (k : K3) {t : Int} (ht : 0 < t) (ht2 : t.natAbs < 2 ^ 60) {a : Nat} {h : Hh} (ha : a < h.length) (q : Hh) :
    callF P (m + 40) 24 [.ptr a, .int t] (h.set a (kl k) ++ q) = .ok (.int (lad k t).1) (h.set a (kl (lad k t).2) ++ q) := by
  have e : (h.set a (kl k) ++ q)[a]? = some (kl k) := ap_get (by rw [List.getElem?_set_self ha]) q
  rw [r_ladle m k ht ht2 a _ e, List.set_append_left _ _ (by simpa using ha), List.set_set]
/-! drawn rows, as the law draws them -/
def entF (p : Int) (thin : Bool) (k : K3) : Int × K3 :=
  if thin = true then (if (lad (lad k p).2 3).1 = 0 then (lad k p).1 else 0, (lad (lad k p).2 3).2) else lad k p
def rowF (p : Int) (thin : Bool) : Nat → K3 → Row × K3
  | 0, k => ([], k)
  | i + 1, k => ((rowF p thin i k).1 ++ [(entF p thin (rowF p thin i k).2).1], (entF p thin (rowF p thin i k).2).2)
def lnF (p : Int) (thin : Bool) (w : Nat) : Nat → K3 → List Row × K3
  | 0, k => ([], k)
  | i + 1, k => ((lnF p thin w i k).1 ++ [(rowF p thin w (lnF p thin w i k).2).1], (rowF p thin w (lnF p thin w i k).2).2)
theorem entF_rng {p : Int} (hp : 0 < p) (thin : Bool) (k : K3) : 0 ≤ (entF p thin k).1 ∧ (entF p thin k).1 < p := by
  have := lad_rng hp k
  unfold entF
  split
  · dsimp only
    split
    · exact this
    · omega
  · exact this
theorem rowF_rw {p : Int} (hp : 0 < p) (thin : Bool) : ∀ (w : Nat) (k : K3), Rw p w (rowF p thin w k).1
  | 0, k => ⟨rfl, fun x hx => by cases hx⟩
  | w + 1, k => by
    have ih := rowF_rw hp thin w k
    refine ⟨by unfold rowF; rw [List.length_append, ih.len]; rfl, fun x hx => ?_⟩
    unfold rowF at hx
    rcases List.mem_append.mp hx with e | e
    · exact ih.res x e
    · rw [List.mem_singleton.mp e]
      exact entF_rng hp thin _
theorem lnF_rws {p : Int} (hp : 0 < p) (thin : Bool) (w : Nat) : ∀ (n : Nat) (k : K3), Rws p w (lnF p thin w n k).1 ∧ (lnF p thin w n k).1.length = n
  | 0, k => ⟨fun r hr => (by cases hr), rfl⟩
  | n + 1, k => by
    obtain ⟨ih1, ih2⟩ := lnF_rws hp thin w n k
    refine ⟨fun r hr => ?_, by unfold lnF; rw [List.length_append, ih2]; rfl⟩
    unfold lnF at hr
    rcases List.mem_append.mp hr with e | e
    · exact ih1 r e
    · rw [List.mem_singleton.mp e]
      exact rowF_rw hp thin w _
def e36 : I := .ife (.or (.not (.tv (.var 6))) (.one (.cmp .eq (.cal 24 (.acons (.var 0) (.acons (.cst (.int 3)) .anil))) (.cst (.int 0))))) (.var 9) (.cst (.int 0))
def i36 : I := .sCons (.sAsg (.gv 9) (.cal 24 (.acons (.var 0) (.acons (.var 1) .anil)))) (.sCons (.sExp (.app (.var 7) e36)) .sNil)
theorem in36 (m : Nat) {p : Int} (hp : Pr p) (thin : Bool) (k : K3) {a : Nat} {h : Hh} (ha : a < h.length) (r : Row) (rl : r.length ≤ 1000) (q : Hh) (u2 u3 u4 u5 u8 u9 : D) :
    ev P (m + 60) i36 [.ptr a, .int p, u2, u3, u4, u5, .bl thin, .ptr (h.length + q.length), u8, u9] (h.set a (kl k) ++ (q ++ [intL r])) =
      .nx [.ptr a, .int p, u2, u3, u4, u5, .bl thin, .ptr (h.length + q.length), u8, .int (lad k p).1] (h.set a (kl (entF p thin k).2) ++ (q ++ [intL (r ++ [(entF p thin k).1])])) := by
  have pp := hp.pos
  have l1 := fun m (q : Hh) => r_ladS m k (t := p) (by omega) (by omega) ha q
  have l2 := fun m (q : Hh) => r_ladS m (lad k p).2 (t := 3) (by omega) (by omega) ha q
  have gt : ∀ k : K3, (h.set a (kl k) ++ (q ++ [intL r]))[h.length + q.length]? = some (intL r) := fun k => by
    rw [List.getElem?_append_right (by simp)]
    simp
  have st : ∀ (k : K3) (d : List D), (h.set a (kl k) ++ (q ++ [intL r])).set (h.length + q.length) d = h.set a (kl k) ++ (q ++ [d]) := fun k d => by
    rw [List.set_append_right _ _ (by simp)]
    congr 1
    rw [List.length_set, Nat.add_sub_cancel_left, List.set_append_right _ _ (Nat.le_refl _), Nat.sub_self]
    rfl
  have ap : ∀ (k : K3) (y : Int), appK (.ptr (h.length + q.length)) (.int y) (h.set a (kl k) ++ (q ++ [intL r])) = .ok .non (h.set a (kl k) ++ (q ++ [intL (r ++ [y])])) := fun k y => by
    rw [appK_of (gt k) (by rw [intL_len]; omega) rfl, st]
    congr 3
    show [intL r ++ [D.int y]] = _
    rw [← intL_app]
    rfl
  cases thin with
  | false =>
    have en : entF p false k = lad k p := rfl
    rw [en]
    simp -implicitDefEqProofs [i36, e36, l1, ap]
  | true =>
    have en : entF p true k = (if (lad (lad k p).2 3).1 = 0 then (lad k p).1 else 0, (lad (lad k p).2 3).2) := rfl
    rw [en]
    by_cases c : (lad (lad k p).2 3).1 = 0
    · simp -implicitDefEqProofs [i36, e36, l1, l2, ap, pyEq_int, c]
    · simp -implicitDefEqProofs [i36, e36, l1, l2, ap, pyEq_int, c]
end K0
-- K0o
namespace K0
open PySem Ev Ev.Rx Li
theorem src_rgi {h : Hh} {w i : Nat} (hi : i < w) : srcAt h (.rg 0 1 w) i = some (some (.int (i : Int))) := by
  rw [src_rg0 (by omega), List.getElem?_map, List.getElem?_range hi]
  rfl
theorem lp36 (m : Nat) {p : Int} (hp : Pr p) (thin : Bool) (k : K3) {a : Nat} {h : Hh} (ha : a < h.length) {w : Nat} (hw : w ≤ 1000) (q : Hh) (u2 u3 u4 u5 u8 u9 : D) :
    ∃ v : D × D, loopF (.rg 0 1 w) (forT P (m + 60) (.gv 8) i36) turns 0 [.ptr a, .int p, u2, u3, u4, u5, .bl thin, .ptr (h.length + q.length), u8, u9] (h.set a (kl k) ++ (q ++ [[]])) =
      .nx [.ptr a, .int p, u2, u3, u4, u5, .bl thin, .ptr (h.length + q.length), v.1, v.2] (h.set a (kl (rowF p thin w k).2) ++ (q ++ [intL (rowF p thin w k).1])) := by
  have hp0 : 0 < p := by have := hp.pos; omega
  obtain ⟨σ', h', e, v8, v9, e1, e2⟩ := loopF_inv (s := .rg 0 1 w) (f := forT P (m + 60) (.gv 8) i36)
    (fun i σ hh => ∃ v8 v9, σ = [.ptr a, .int p, u2, u3, u4, u5, .bl thin, .ptr (h.length + q.length), v8, v9] ∧ hh = h.set a (kl (rowF p thin i k).2) ++ (q ++ [intL (rowF p thin i k).1])) w
    (fun i σ hh hi ⟨v8, v9, e1, e2⟩ => by
      subst e1 e2
      have rl := (rowF_rw hp0 thin i k).len
      exact ⟨_, _, _, src_rgi hi, .inl (in36 m hp thin (rowF p thin i k).2 ha (rowF p thin i k).1 (by omega) q u2 u3 u4 u5 (.int (i : Int)) v9), _, _, rfl, rfl⟩)
    (fun σ hh _ => src_end) turns 0 _ _ (by unfold turns; omega) (Nat.zero_le _) ⟨u8, u9, rfl, rfl⟩
  exact ⟨(v8, v9), e.trans (by rw [e1, e2])⟩
def w36 : I := .sCons (.sAsg (.gv 7) (.lst .anil)) (.sCons (.sFor (.gv 8) (.iR (.acons (.var 3) .anil)) i36) (.sCons (.sExp (.app (.var 5) (.blt .tuple (.acons (.var 7) .anil)))) .sNil))
theorem b36_eq : b32 = .sCons (.sPar2 5 6 (.lst .anil) (.cmp .eq (.cal 24 (.acons (.var 0) (.acons (.cst (.int 3)) .anil))) (.cst (.int 0)))) (.sCons (.sFor (.gv 4) (.iR (.acons (.var 2) .anil)) w36) (.sCons (.sRet (.var 5)) .sNil)) := rfl
theorem st36 (m : Nat) {p : Int} (hp : Pr p) (thin : Bool) (k : K3) {a : Nat} {h : Hh} (ha : a < h.length) {w : Nat} (hw : w ≤ 1000) (S : List Row) (sl : S.length ≤ 1000) (q : Hh) (u2 u4 u7 u8 u9 : D) :
    ∃ v : D × D × D, ev P (m + 80) w36 [.ptr a, .int p, u2, .int (w : Int), u4, .ptr h.length, .bl thin, u7, u8, u9] (h.set a (kl k) ++ (tbs S :: q)) =
      .nx [.ptr a, .int p, u2, .int (w : Int), u4, .ptr h.length, .bl thin, v.1, v.2.1, v.2.2] (h.set a (kl (rowF p thin w k).2) ++ (tbs (S ++ [(rowF p thin w k).1]) :: (q ++ [intL (rowF p thin w k).1]))) := by
  obtain ⟨v, l1⟩ := pick1 (fun m => lp36 m hp thin k ha hw (tbs S :: q) u2 (.int (w : Int)) u4 (.ptr h.length) u8 u9)
  simp only [List.length_cons, List.cons_append] at l1
  refine ⟨(.ptr (h.length + (q.length + 1)), (v (m + 17)).1, (v (m + 17)).2), ?_⟩
  generalize hr : rowF p thin w k = r at *
  have nl : newL (h.set a (kl k) ++ (tbs S :: q)) [] = .ok (.ptr (h.length + (q.length + 1))) (h.set a (kl k) ++ (tbs S :: (q ++ [[]]))) := by
    rw [newL1]; simp
  have ll : ∀ hh : Hh, lstK [] hh = newL hh [] := fun _ => rfl
  have gt : (h.set a (kl r.2) ++ (tbs S :: (q ++ [intL r.1])))[h.length + (q.length + 1)]? = some (intL r.1) := by
    rw [List.getElem?_append_right (by simp)]
    simp
  have tt : builtin .tuple [.ptr (h.length + (q.length + 1))] (h.set a (kl r.2) ++ (tbs S :: (q ++ [intL r.1]))) = .ok (tr r.1) (h.set a (kl r.2) ++ (tbs S :: (q ++ [intL r.1]))) := by
    rw [bi_tuple gt, mkT_intL]; rfl
  have gs : (h.set a (kl r.2) ++ (tbs S :: (q ++ [intL r.1])))[h.length]? = some (tbs S) := by
    rw [List.getElem?_append_right (by simp)]
    simp
  have ap := appK_of (y := tr r.1) gs (by rw [tbs_len]; omega) rfl
  have es : (h.set a (kl r.2) ++ (tbs S :: (q ++ [intL r.1]))).set h.length (tbs S ++ [tr r.1]) = h.set a (kl r.2) ++ (tbs (S ++ [r.1]) :: (q ++ [intL r.1])) := by
    rw [List.set_append_right _ _ (by simp)]
    simp [← tbs_app]
    rfl
  rw [es] at ap
  simp -implicitDefEqProofs [w36, ll, nl, rngK1 (show w ≤ 1000000 by omega), l1, tt, ap]
def linF (p : Int) (w many : Nat) (k : K3) : List Row × K3 := lnF p (decide ((lad k 3).1 = 0)) w many (lad k 3).2
theorem set_id {h : Hh} {a : Nat} {d : List D} (e : h[a]? = some d) : h.set a d = h := by
  refine List.ext_getElem? fun j => ?_
  rw [List.getElem?_set]
  by_cases c : a = j
  · subst c
    obtain ⟨lt, e2⟩ := List.getElem?_eq_some_iff.mp e
    simp [lt, e2]
  · simp [c]
theorem r_lines (n : Nat) {p : Int} (hp : Pr p) (k : K3) {a : Nat} {h : Hh} (e : h[a]? = some (kl k)) {w many : Nat} (hw : w ≤ 1000) (hm : many ≤ 1000) :
    callF P (n + 100) 32 [.ptr a, .int p, .int (many : Int), .int (w : Int)] h = .ok (.ptr h.length) (h.set a (kl (linF p w many k).2) ++ [tbs (linF p w many k).1]) := by
  have ha := (List.getElem?_eq_some_iff.mp e).1
  have hp0 : 0 < p := by have := hp.pos; omega
  have eh : callF P (n + 100) 32 [.ptr a, .int p, .int (many : Int), .int (w : Int)] h = callF P (n + 100) 32 [.ptr a, .int p, .int (many : Int), .int (w : Int)] (h.set a (kl k)) := by rw [set_id e]
  rw [eh, callF_at P fs32 rfl, b36_eq]
  have l1 := fun m (q : Hh) => r_ladS m k (t := 3) (by omega) (by omega) ha q
  unfold linF
  generalize hb : decide ((lad k 3).1 = 0) = thin
  generalize (lad k 3).2 = k1 at *
  have lp : ∀ m, ∃ v : D × D × D × D × Hh, loopF (.rg 0 1 many) (forT P (m + 80) (.gv 4) w36) turns 0 [.ptr a, .int p, .int (many : Int), .int (w : Int), .una, .ptr h.length, .bl thin, .una, .una, .una] (h.set a (kl k1) ++ [tbs []]) = .nx [.ptr a, .int p, .int (many : Int), .int (w : Int), v.1, .ptr h.length, .bl thin, v.2.1, v.2.2.1, v.2.2.2.1] (h.set a (kl (lnF p thin w many k1).2) ++ (tbs (lnF p thin w many k1).1 :: v.2.2.2.2)) := fun m => by
    obtain ⟨σ', h', e, v4, v7, v8, v9, q, e1, e2⟩ := loopF_inv (s := .rg 0 1 many) (f := forT P (m + 80) (.gv 4) w36)
      (fun i σ hh => ∃ v4 v7 v8 v9 q, σ = [.ptr a, .int p, .int (many : Int), .int (w : Int), v4, .ptr h.length, .bl thin, v7, v8, v9] ∧ hh = h.set a (kl (lnF p thin w i k1).2) ++ (tbs (lnF p thin w i k1).1 :: q)) many
      (fun i σ hh hi ⟨v4, v7, v8, v9, q, e1, e2⟩ => by
        subst e1 e2
        obtain ⟨v, r⟩ := st36 m hp thin (lnF p thin w i k1).2 ha hw (lnF p thin w i k1).1 (by rw [(lnF_rws hp0 thin w i k1).2]; omega) q (.int (many : Int)) (.int (i : Int)) v7 v8 v9
        exact ⟨_, _, _, src_rgi hi, .inl r, _, _, _, _, _, rfl, rfl⟩)
      (fun σ hh _ => src_end) turns 0 _ _ (by unfold turns; omega) (Nat.zero_le _) ⟨.una, .una, .una, .una, [], rfl, rfl⟩
    exact ⟨(v4, v7, v8, v9, q), e.trans (by rw [e1, e2])⟩
  obtain ⟨v, lp⟩ := pick1 lp
  have ll : ∀ hh : Hh, lstK [] hh = newL hh (tbs []) := fun _ => rfl
  have bk : ∀ (S : List Row) (k : K3) (q : Hh), back h.length (.ptr h.length) (h.set a (kl k) ++ (tbs S :: q)) = .ok (.ptr h.length) (h.set a (kl k) ++ [tbs S]) := fun S k q =>
    back_at h.length (Nat.le_refl _) (by rw [List.getElem?_append_right (by simp)]; simp) (tbs_any S) (List.take_left' (by simp))
  simp -implicitDefEqProofs [ll, newL0, l1, pyEq_int, hb, rngK1 (show many ≤ 1000000 by omega), lp, bk]
def drF (p : Int) (w : Nat) (k : K3) : List Row × K3 :=
  (base p (iv p) (linF p w (lad k ((w : Int) + 1)).1.toNat (lad k ((w : Int) + 1)).2).1 w, (linF p w (lad k ((w : Int) + 1)).1.toNat (lad k ((w : Int) + 1)).2).2)
theorem drF_red {p : Int} (hp : Pr p) (w : Nat) (k : K3) : Red p w (drF p w k).1 := by
  have hp0 : 0 < p := by have := hp.pos; omega
  exact (base_ok hp.pos.1 (inv_iv hp) (lnF_rws hp0 _ w _ _).1).1
end K0
-- K0p
namespace K0
open PySem Ev Ev.Rx Li
def c29a : I := .bin .pow (.bin .pow (.cst (.int 10)) (.cst (.int 59))) (.cst (.int 7))
def c29b : I := .bin .pow (.cst (.int 10)) (.cst (.int 16))
theorem big : ∃ B : Int, 0 < B ∧ ∀ m σ h, ev P (m + 4) c29a σ h = .ok (.int B) h := ⟨(10 ^ 59) ^ 7, by decide, fun _ _ _ => rfl⟩
theorem big2 : ∃ B : Int, ∀ m σ h, ev P (m + 4) c29b σ h = .ok (.int B) h := ⟨10 ^ 16, fun _ _ _ => rfl⟩
theorem r_pot (ns : List Int) (i : Nat) (h : Hh) : ∃ k : K3, ∀ n, callF P (n + 40) 23 [.frl (intL ns), .int (i : Int)] h = .ok (.ptr h.length) (h ++ [kl k]) := by
  obtain ⟨B, B0, eB⟩ := big
  obtain ⟨C, eC⟩ := big2
  have cell : ∃ c, ∀ m, ev P (m + 15) (.ife (.cmp .lt (.var 1) (.blt .len (.acons (.var 0) .anil))) (.blt .int (.acons (.ix (.var 0) (.var 1)) .anil)) (.bin .add (.bin .mul (.cst (.int 97)) (.var 1)) (.cst (.int 41)))) [.frl (intL ns), .int (i : Int), .una, .una, .una] h = .ok (.int c) h := by
    by_cases c : i < ns.length
    · refine ⟨at_ ns i, fun m => ?_⟩
      simp -implicitDefEqProofs [bi_len (x := .frl (intL ns)) rfl, c, index_nat (x := .frl (intL ns)) rfl (at_get c)]
    · refine ⟨97 * i + 41, fun m => ?_⟩
      simp -implicitDefEqProofs [bi_len (x := .frl (intL ns)) rfl, c, mul_k (k := 97) (by decide)]
  obtain ⟨c, cell⟩ := cell
  refine ⟨(if (if c < 0 then -c else c) % B - C + 3 > 0 then (if c < 0 then -c else c) % B - C + 3 else 0, ((if c < 0 then -c else c) % B % 1152921504606846697 * 60623 + 7393 * (i : Int) + 71 * (if c < 0 then 1 else 0) + 37) % 2305843009213693973, 0), fun n => ?_⟩
  rw [callF_at P fs23 rfl]
  have eb : b23 = b23 := rfl
  conv at eb => rhs; unfold b23
  rw [show (I.bin .pow (.bin .pow (.cst (.int 10)) (.cst (.int 59))) (.cst (.int 7))) = c29a from rfl, show (I.bin .pow (.cst (.int 10)) (.cst (.int 16))) = c29b from rfl] at eb
  simp only [eb]
  revert cell eB eC
  generalize (I.ife (.cmp .lt (.var 1) (.blt .len (.acons (.var 0) .anil))) (.blt .int (.acons (.ix (.var 0) (.var 1)) .anil)) (.bin .add (.bin .mul (.cst (.int 97)) (.var 1)) (.cst (.int 41)))) = T1
  generalize c29a = T2
  generalize c29b = T3
  intro eB eC cell
  have lk : ∀ X Y : Int, lstK [D.int X, D.int Y, D.int 0] h = .ok (.ptr h.length) (h ++ [kl (X, Y, 0)]) := fun X Y => rfl
  have bk : ∀ k : K3, back h.length (.ptr h.length) (h ++ [kl k]) = .ok (.ptr h.length) (h ++ [kl k]) := fun k => bt_ptr0 h (kl k) (intL_any _)
  simp -implicitDefEqProofs [cell, eB, eC, binop_mod (posI_of B0), binop_mod (posI_of (j := 2305843009213693973) (by decide)), binop_mod (posI_of (j := 1152921504606846697) (by decide)), mul_r (k := 60623) (by decide), mul_k (k := 7393) (by decide), mul_k (k := 71) (by decide), lk, bk]
def P4 : Row := [2, 3, 5, 7]
def pkF (k : K3) : Int × K3 := (at_ P4 (lad k 4).1.toNat, (lad k 4).2)
theorem pkF_pr (k : K3) : Pr (pkF k).1 := by
  have := lad_rng (t := 4) (by omega) k
  unfold pkF
  dsimp only
  obtain ⟨c, hc⟩ : ∃ c : Nat, (lad k 4).1 = (c : Int) := ⟨(lad k 4).1.toNat, by omega⟩
  rw [hc] at this ⊢
  rw [Int.toNat_natCast]
  have : c = 0 ∨ c = 1 ∨ c = 2 ∨ c = 3 := by omega
  rcases this with rfl | rfl | rfl | rfl
  · exact .inl rfl
  · exact .inr (.inl rfl)
  · exact .inr (.inr (.inl rfl))
  · exact .inr (.inr (.inr rfl))
theorem r_pick (n : Nat) (k : K3) {a b : Nat} {h : Hh} (ab : a ≠ b) (e : h[a]? = some (kl k)) (eb : h[b]? = some (intL P4)) :
    callF P (n + 60) 25 [.ptr a, .ptr b] h = .ok (.int (pkF k).1) (h.set a (kl (pkF k).2)) := by
  rw [callF_at P fs25 rfl]
  have l1 := fun m => r_ladle m k (t := 4) (by omega) (by omega) a h e
  have ll : builtin .len [.ptr b] h = .ok (.int 4) h := by rw [bi_len (x := .ptr b) eb]; rfl
  have rg := lad_rng (t := 4) (by omega) k
  unfold pkF
  generalize lad k 4 = v at *
  obtain ⟨c, hc⟩ : ∃ c : Nat, v.1 = (c : Int) := ⟨v.1.toNat, by omega⟩
  rw [hc] at l1 rg ⊢
  rw [Int.toNat_natCast]
  have eb1 : (h.set a (kl v.2))[b]? = some (intL P4) := by rw [List.getElem?_set_ne ab, eb]
  have ix : index (.ptr b) (.int (c : Int)) (h.set a (kl v.2)) = .ok (.int (at_ P4 c)) (h.set a (kl v.2)) := index_nat (x := .ptr b) eb1 (at_get (by show c < 4; omega))
  simp -implicitDefEqProofs [b25, ll, l1, ix, take_set]
end K0
-- K0q
namespace K0
open PySem Ev Ev.Rx Li
theorem g_whole (n : Nat) (v : D) (kv : known v = true) (h : Hh) : callF P (n + 10) 0 [v] h = .ok (.bl (tyI v && !tyB v)) h := by
  rw [callF_at P fs0 rfl]
  have u := known_una kv
  simp -implicitDefEqProofs [b0, isi_int kv, isi_bl kv, u, h_take0]
  by_cases c : tyI v = true
  · simp [c, h_take0]
  · simp [c, h_take0]
def inW (a b : Int) : D → Bool
  | .int i => decide (a ≤ i) && decide (i ≤ b)
  | _ => false
theorem g_within (n : Nat) (v : D) (kv : known v = true) (a b : Int) (h : Hh) : callF P (n + 20) 1 [v, .int a, .int b] h = .ok (.bl (inW a b v)) h := by
  rw [callF_at P fs1 rfl]
  have u := known_una kv
  simp -implicitDefEqProofs [b1, u, g_whole _ v kv]
  cases v with
  | int i =>
    by_cases c : a ≤ i
    · simp [c, tyI, tyB, h_take0, inW]
    · simp [c, tyI, tyB, h_take0, inW]
  | _ => simp [tyI, tyB, h_take0, inW]
/-- a row of residues -/
def isRow (p : Int) (w : Nat) : D → Bool
  | .tup ds => decide (ds.length = w) && ds.all (inW 0 (p - 1))
  | _ => false
/-- a value whose pieces are known, of moderate size -/
def Near1 (v : D) : Prop := known v = true ∧ (∀ ds, v ≠ .mtp ds) ∧ ∀ ds, v = .tup ds → (∀ d ∈ ds, known d = true) ∧ ds.length ≤ 1000
def Near (v : D) : Prop := known v = true ∧ (∀ ds, v ≠ .mtp ds) ∧ ∀ ds, v = .tup ds → (∀ d ∈ ds, Near1 d) ∧ ds.length ≤ 1000
theorem g_row (n : Nat) (p : Int) (w : Nat) (v : D) (nv : Near1 v) (h : Hh) : callF P (n + 40) 3 [.int p, .int (w : Int), v] h = .ok (.bl (isRow p w v)) h := by
  obtain ⟨kv, nm, hv⟩ := nv
  rw [callF_at P fs3 rfl]
  have u := known_una kv
  cases v with
  | tup ds =>
    obtain ⟨k1, k2⟩ := hv ds rfl
    have lc : ∀ m, loopC (.sq (.tup ds)) (lcT P (m + 25) (.gv 3) (.cst (.bl true)) (.cal 1 (.acons (.var 3) (.acons (.cst (.int 0)) (.acons (.bin .sub (.var 0) (.cst (.int 1))) .anil)))) [3] [.int p, .int (w : Int), .tup ds, .una]) turns 0 [] h = .oks (ds.map fun d => .bl (inW 0 (p - 1) d)) h := fun m =>
      loopC_map _ ds (fun i _ => rfl) (fun x hx => by
        rw [lcT_eq]
        simp -implicitDefEqProofs [wipeD, known_una (k1 x hx), g_within _ x (k1 x hx)]) (by omega)
    simp -implicitDefEqProofs [b3, isi_tup, tyT, pyEq_int, sqK]
    by_cases c : (ds.length : Int) = (w : Int)
    · have c' : ds.length = w := by omega
      simp -implicitDefEqProofs [c, c', h_take0, lc, newL0, bi_all0, h_take, isRow]
    · have c' : ¬ ds.length = w := by omega
      simp -implicitDefEqProofs [c, c', h_take0, isRow]
  | mtp ds => exact absurd rfl (nm ds)
  | _ => simp -implicitDefEqProofs [b3, u, isi_tup kv, tyT, h_take0, isRow]
/-- rows of residues stand for rows -/
theorem isRow_row {p : Int} {w : Nat} {d : D} (h : isRow p w d = true) : ∃ r : Row, d = tr r ∧ Rw p w r := by
  cases d with
  | tup ds =>
    obtain ⟨h1, h2⟩ := bnd (show (decide (ds.length = w) && ds.all (inW 0 (p - 1))) = true from h)
    have h1 := of_decide_eq_true h1
    have : ∀ ds : List D, ds.all (inW 0 (p - 1)) = true → ∃ r : Row, ds = intL r ∧ ∀ x ∈ r, 0 ≤ x ∧ x < p := fun ds => by
      induction ds with
      | nil => intro _; exact ⟨[], rfl, fun _ h => by cases h⟩
      | cons d ds ih =>
        intro h
        obtain ⟨a, b⟩ := bnd (show (inW 0 (p - 1) d && ds.all (inW 0 (p - 1))) = true from h)
        obtain ⟨r, rfl, hr⟩ := ih b
        cases d with
        | int i =>
          obtain ⟨z1, z2⟩ := bnd (show (decide (0 ≤ i) && decide (i ≤ p - 1)) = true from a)
          have z1 := of_decide_eq_true z1
          have z2 := of_decide_eq_true z2
          refine ⟨i :: r, rfl, fun x hx => ?_⟩
          rcases List.mem_cons.mp hx with e | e
          · omega
          · exact hr x e
        | _ => cases a
    obtain ⟨r, rfl, hr⟩ := this ds h2
    exact ⟨r, rfl, by rw [intL_len] at h1; exact h1, hr⟩
  | _ => cases h
theorem isRow_tr {p : Int} {w : Nat} {r : Row} (hr : Rw p w r) : isRow p w (tr r) = true := by
  show (decide ((intL r).length = w) && (intL r).all (inW 0 (p - 1))) = true
  rw [Bool.and_eq_true]
  refine ⟨decide_eq_true (by rw [intL_len]; exact hr.len), List.all_eq_true.mpr fun d hd => ?_⟩
  obtain ⟨x, hx, rfl⟩ := List.mem_map.mp hd
  have := hr.res x hx
  show (decide (0 ≤ x) && decide (x ≤ p - 1)) = true
  simp; omega
theorem rows_of {p : Int} {w : Nat} : ∀ {ds : List D}, ds.all (isRow p w) = true → ∃ S : List Row, ds = tbs S ∧ Rws p w S
  | [], _ => ⟨[], rfl, fun _ h => by cases h⟩
  | d :: ds, h => by
    obtain ⟨a, b⟩ := bnd (show (isRow p w d && ds.all (isRow p w)) = true from h)
    obtain ⟨S, rfl, hS⟩ := rows_of b
    obtain ⟨r, rfl, hr⟩ := isRow_row a
    refine ⟨r :: S, rfl, fun s hs => ?_⟩
    rcases List.mem_cons.mp hs with e | e
    · rw [e]; exact hr
    · exact hS s e
/-! the judge of bases -/
theorem g_leads (n : Nat) {w : Nat} {p : Int} {S : List Row} (hS : Rws p w S) (bl : S.length ≤ 1000) (h : Hh) : callF P (n + 30) 10 [tb S] h = .ok (.ptr h.length) (h ++ [S.map fun r => if ld r < r.length then .int (ld r : Int) else .non]) := by
  rw [callF_at P fs10 rfl]
  have lc : ∀ m, loopC (.sq (tb S)) (lcT P (m + 15) (.gv 1) (.cst (.bl true)) (.cal 9 (.acons (.var 1) .anil)) [1] [tb S, .una]) turns 0 [] h = .oks (S.map fun r => if ld r < r.length then .int (ld r : Int) else .non) h := fun m => by
    rw [lc_all S tr (fun r => if ld r < r.length then .int (ld r : Int) else .non) (fun i _ => src_tb h S i) (fun r hr => by
      rw [lcT_eq]
      simp -implicitDefEqProofs [wipeD, r_lead]) (by omega)]
  have an : (S.map fun r => if ld r < r.length then D.int (ld r : Int) else .non).any isPtr = false := by
    rw [List.any_map, List.any_eq_false]
    intro r _
    show ¬ isPtr (if ld r < r.length then D.int (ld r : Int) else .non) = true
    split <;> exact Bool.false_ne_true
  have bk := bt_ptr0 h _ an
  simp -implicitDefEqProofs [b10, sqK_of (items_tb h S), lc, newL0, bk]
theorem none_in {a : Nat} {S : List Row} {h : Hh} (e : h[a]? = some (S.map fun r => if ld r < r.length then D.int (ld r : Int) else .non)) : memH h .non (.ptr a) = some (S.any fun r => !decide (ld r < r.length)) := by
  unfold memH
  rw [items_ptr, e]
  have e1 : (S.map fun r => if ld r < r.length then D.int (ld r : Int) else .non).all flatD = true := by
    rw [List.all_map, List.all_eq_true]
    intro r _
    show flatD (if ld r < r.length then D.int (ld r : Int) else .non) = true
    split <;> rfl
  have e2 : ((S.map fun r => if ld r < r.length then D.int (ld r : Int) else .non).any fun y => flatE y .non) = S.any fun r => !decide (ld r < r.length) := by
    rw [List.any_map]
    congr 1
    funext r
    show flatE (if ld r < r.length then D.int (ld r : Int) else .non) .non = !decide (ld r < r.length)
    by_cases c : ld r < r.length
    · rw [if_pos c, decide_eq_true c]; rfl
    · rw [if_neg c, decide_eq_false c]; rfl
  show (match true, some (S.map fun r => if ld r < r.length then D.int (ld r : Int) else .non) with
    | true, some ds => (match ds.all flatD with
      | true => some (ds.any fun y => flatE y .non)
      | false => none)
    | _, _ => none) = _
  dsimp only
  rw [e1]
  dsimp only
  rw [e2]
end K0
-- K0r
namespace K0
open PySem Ev Ev.Rx Li
theorem loopA_gen {α : Type} {s : Src} {f : D → Hh → R} {h : Hh} (xs : List α) (t : α → D) (g : α → D) (hs : ∀ i, i ≤ xs.length → srcAt h s i = some ((xs.map t)[i]?)) (hf : ∀ x ∈ xs, f (t x) h = .ok (g x) h) :
    ∀ (m i : Nat) (acc : List D), xs.length < m + i → i ≤ xs.length → loopA s f m i acc h = .oks (((xs.drop i).map g).reverse ++ acc) h
  | 0, i, acc, h1, h2 => by omega
  | m + 1, i, acc, h1, h2 => by
    unfold loopA
    rw [hs i h2, List.getElem?_map]
    rcases Nat.lt_or_ge i xs.length with hi | hi
    · rw [List.getElem?_eq_getElem hi]
      dsimp only [Option.map_some]
      rw [hf xs[i] (List.getElem_mem hi)]
      dsimp only
      rw [loopA_gen xs t g hs hf m (i + 1) (g xs[i] :: acc) (by omega) (by omega), List.drop_eq_getElem_cons hi, List.map_cons, List.reverse_cons, List.append_assoc]
      rfl
    · rw [List.getElem?_eq_none hi, List.drop_eq_nil_of_le hi]
      rfl
theorem loopB_gen {α : Type} {s : Src} {f : D → List D → Hh → R} {h : Hh} (xs : List α) (t : α → D) (G : α → List D) (hs : ∀ i, i ≤ xs.length → srcAt h s i = some ((xs.map t)[i]?)) (hf : ∀ x ∈ xs, ∀ acc, f (t x) acc h = .oks ((G x).reverse ++ acc) h) :
    ∀ (m i : Nat) (acc : List D), xs.length < m + i → i ≤ xs.length → acc.length + ((xs.drop i).flatMap G).length ≤ 1000000 → loopB s f m i acc h = .oks (acc.reverse ++ (xs.drop i).flatMap G) h
  | 0, i, acc, h1, h2, h3 => by omega
  | m + 1, i, acc, h1, h2, h3 => by
    unfold loopB
    rw [hs i h2, List.getElem?_map]
    rcases Nat.lt_or_ge i xs.length with hi | hi
    · rw [List.getElem?_eq_getElem hi]
      dsimp only [Option.map_some]
      rw [hf xs[i] (List.getElem_mem hi)]
      dsimp only
      rw [List.drop_eq_getElem_cons hi, List.flatMap_cons] at h3
      rw [loopB_gen xs t G hs hf m (i + 1) ((G xs[i]).reverse ++ acc) (by omega) (by omega) (by simp only [List.length_append, List.length_reverse] at h3 ⊢; omega), List.drop_eq_getElem_cons hi, List.flatMap_cons, List.reverse_append, List.reverse_reverse, List.append_assoc]
    · rw [List.getElem?_eq_none hi]
      dsimp only [Option.map_none]
      rw [List.drop_eq_nil_of_le hi] at h3 ⊢
      rw [show Nat.ble acc.length line = true from Nat.ble_eq.mpr (by unfold line; simp at h3; omega)]
      simp
def leadsOk (S : List Row) : Bool := !(S.any fun r => !decide (ld r < r.length))
def srtB (S : List Row) : Bool := (S.zip (S.drop 1)).all fun q => decide (ld q.1 < ld q.2)
def dltL (S : List Row) : List Bool := S.zipIdx.flatMap fun q => S.zipIdx.map fun s => decide (at_ q.1 (ld s.1) = if q.2 = s.2 then 1 else 0)
def redC (S : List Row) : Bool := leadsOk S && (srtB S && (dltL S).all id)
theorem pw_of_zip : ∀ {L : List Row}, (∀ q ∈ L.zip (L.drop 1), ld q.1 < ld q.2) → L.Pairwise (fun r s => ld r < ld s)
  | [], _ => .nil
  | [a], _ => List.pairwise_cons.mpr ⟨fun _ h => (by cases h), .nil⟩
  | a :: b :: L, h => by
    have ih := pw_of_zip (L := b :: L) fun q hq => h q (List.mem_cons_of_mem _ hq)
    have ab : ld a < ld b := h (a, b) (List.mem_cons_self ..)
    refine List.pairwise_cons.mpr ⟨fun c hc => ?_, ih⟩
    rcases List.mem_cons.mp hc with e | e
    · rw [e]; exact ab
    · exact Nat.lt_trans ab ((List.pairwise_cons.mp ih).1 c e)
theorem redC_iff {p : Int} {w : Nat} {S : List Row} (hS : Rws p w S) : redC S = true ↔ Red p w S := by
  unfold redC leadsOk srtB dltL
  rw [Bool.and_eq_true, Bool.and_eq_true]
  constructor
  · rintro ⟨h1, h2, h3⟩
    have h2' := List.all_eq_true.mp h2
    have pw := pw_of_zip fun q hq => of_decide_eq_true (h2' q hq)
    have h3' := List.all_eq_true.mp h3
    have dl : ∀ i j (hi : i < S.length) (hj : j < S.length), at_ S[i] (ld S[j]) = if i = j then 1 else 0 := fun i j hi hj => by
      have : decide (at_ S[i] (ld S[j]) = if i = j then 1 else 0) ∈ S.zipIdx.flatMap fun q => S.zipIdx.map fun s => decide (at_ q.1 (ld s.1) = if q.2 = s.2 then 1 else 0) := by
        refine List.mem_flatMap.mpr ⟨(S[i], i), ?_, List.mem_map.mpr ⟨(S[j], j), ?_, rfl⟩⟩
        · exact List.mk_mem_zipIdx_iff_getElem?.mpr (List.getElem?_eq_getElem hi)
        · exact List.mk_mem_zipIdx_iff_getElem?.mpr (List.getElem?_eq_getElem hj)
      exact of_decide_eq_true (h3' _ this)
    refine ⟨hS, fun r hr => ?_, ?_⟩
    · obtain ⟨i, hi, rfl⟩ := List.getElem_of_mem hr
      rw [dl i i hi hi, if_pos rfl]
    · rw [List.pairwise_iff_getElem] at pw ⊢
      intro i j hi hj hij
      exact ⟨pw i j hi hj hij, by rw [dl i j hi hj, if_neg (by omega)]⟩
  · intro h
    refine ⟨?_, List.all_eq_true.mpr fun q hq => decide_eq_true (pw_zip h.lt q hq), List.all_eq_true.mpr fun b hb => ?_⟩
    · rw [Bool.not_eq_true', List.any_eq_false]
      intro r hr
      have := Red.ldlt h hr
      simp [(hS r hr).len]
      omega
    · obtain ⟨q, hq, hb⟩ := List.mem_flatMap.mp hb
      obtain ⟨s, hs, rfl⟩ := List.mem_map.mp hb
      obtain ⟨r, i⟩ := q
      obtain ⟨t, j⟩ := s
      have hi := List.mk_mem_zipIdx_iff_getElem?.mp hq
      have hj := List.mk_mem_zipIdx_iff_getElem?.mp hs
      obtain ⟨hil, her⟩ := List.getElem?_eq_some_iff.mp hi
      obtain ⟨hjl, het⟩ := List.getElem?_eq_some_iff.mp hj
      refine decide_eq_true ?_
      dsimp only
      by_cases c : i = j
      · subst c
        have : r = t := by rw [← her, ← het]
        rw [if_pos rfl, this]
        exact h.one t (by rw [← het]; exact List.getElem_mem _)
      · rw [if_neg c]
        refine h.off (by rw [← her]; exact List.getElem_mem _) (by rw [← het]; exact List.getElem_mem _) fun q => ?_
        have hlt := List.pairwise_iff_getElem.mp h.lt
        rcases Nat.lt_or_gt_of_ne c with a | a
        · have := hlt i j hil hjl a
          rw [her, het] at this
          omega
        · have := hlt j i hjl hil a
          rw [her, het] at this
          omega
end K0
-- K0s
namespace K0
open PySem Ev Ev.Rx Li
theorem bls_id (L : List Bool) : bls (L.map D.bl) = some L := by
  have := bls_map (fun b : Bool => b) L
  simpa using this
theorem all_bl (L : List Bool) (a : Nat) (h : Hh) (e : h[a]? = some (L.map D.bl)) : builtin .all [.ptr a] h = .ok (.bl (L.all id)) h := bi_all e (bls_id L)
theorem g_isred (n : Nat) {p : Int} {w : Nat} {S : List Row} (hS : Rws p w S) (bl : S.length ≤ 200) (h : Hh) : callF P (n + 60) 15 [.int p, tb S] h = .ok (.bl (redC S)) h := by
  rw [callF_at P fs15 rfl]
  have gl := fun m => g_leads m hS (show S.length ≤ 1000 by omega) h
  unfold redC
  cases lk : leadsOk S with
  | false =>
    have e0 : (h ++ [S.map fun r => if ld r < r.length then D.int (ld r : Int) else .non])[h.length]? = some (S.map fun r => if ld r < r.length then D.int (ld r : Int) else .non) := by rw [h_get0]; rfl
    have ni := none_in e0
    have z : (S.any fun r => !decide (ld r < r.length)) = true := by
      unfold leadsOk at lk
      simpa using lk
    rw [z] at ni
    generalize (S.map fun r => if ld r < r.length then D.int (ld r : Int) else .non) = Z at *
    simp -implicitDefEqProofs [b15, gl, newL0, ni, h_take]
  | true =>
    have z : (S.any fun r => !decide (ld r < r.length)) = false := by
      unfold leadsOk at lk
      simpa using lk
    have hl : ∀ r ∈ S, ld r < r.length := fun r hr => by
      have := List.any_eq_false.mp z r hr
      simpa using this
    have em : (S.map fun r => if ld r < r.length then D.int (ld r : Int) else .non) = lds S := by
      unfold lds
      refine List.map_congr_left fun r hr => ?_
      rw [if_pos (hl r hr)]
    rw [em] at gl
    obtain ⟨Z, hZ⟩ : ∃ Z, Z = (lds S).drop 1 := ⟨_, rfl⟩
    have e1 : (h ++ [lds S])[h.length]? = some (lds S) := by rw [h_get0]; rfl
    have e2 : (h ++ [lds S, Z])[h.length]? = some (lds S) := by rw [h_get0]; rfl
    have e3 : (h ++ [lds S, Z])[h.length + 1]? = some Z := by rw [h_get]; rfl
    have lc : ∀ m u3 u4 u5 u6 u7 u8, loopC (.zp (.ptr h.length) (.ptr (h.length + 1))) (lcT P (m + 20) (.gt (.gcons (.gv 7) (.gcons (.gv 8) .gnil))) (.cst (.bl true)) (.cmp .lt (.var 7) (.var 8)) [7, 8] [.int p, tb S, .ptr h.length, u3, u4, u5, u6, u7, u8]) turns 0 [] (h ++ [lds S, Z]) = .oks (((S.zip (S.drop 1)).map fun q => decide (ld q.1 < ld q.2)).map D.bl) (h ++ [lds S, Z]) := fun m u3 u4 u5 u6 u7 u8 => by
      rw [lc_all (S.zip (S.drop 1)) (fun q => D.tup [.int (ld q.1 : Int), .int (ld q.2 : Int)]) (fun q => .bl (decide (ld q.1 < ld q.2))) (fun i hi => by
        rw [src_zpG (x := .ptr h.length) (y := .ptr (h.length + 1)) e2 e3 i (by
          rw [List.length_zip, List.length_drop] at hi
          rw [hZ]
          unfold lds
          rw [List.length_drop, List.length_map]
          omega), hZ, lds_zip, List.map_map]
        rfl) (fun q hq => by
        rw [lcT_eq]
        simp -implicitDefEqProofs [wipeD]) (by rw [List.length_zip, List.length_drop]; omega)]
      rw [List.map_map]
      rfl
    have sl : slice (.ptr h.length) (.int 1) .non (h ++ [lds S]) = newL (h ++ [lds S]) Z := by rw [hZ]; exact slice_fromA e1 1
    obtain ⟨C, hC⟩ : ∃ C, C = (S.zip (S.drop 1)).map fun q => decide (ld q.1 < ld q.2) := ⟨_, rfl⟩
    rw [← hC] at lc
    have sr : srtB S = C.all id := by
      rw [hC, List.all_map]
      rfl
    have al := all_bl C (h.length + 2) (h ++ [lds S, Z, C.map D.bl]) (by rw [h_get]; rfl)
    rw [sr]
    generalize hcc : C.map D.bl = CC at *
    have e4 : (h ++ [lds S, Z, CC])[h.length]? = some (lds S) := by rw [h_get0]; rfl
    have lb : ∀ m u3 u4 u5 u6 u7 u8, loopB (.en (tb S)) (fun d acc h2 => turnB P (m + 20) (.gt (.gcons (.gv 3) (.gcons (.gv 4) .gnil))) (.iE (.var 2)) (.gt (.gcons (.gv 5) (.gcons (.gv 6) .gnil))) (.cst (.bl true)) (.cmp .eq (.ix (.var 4) (.var 6)) (.blt .int (.acons (.cmp .eq (.var 3) (.var 5)) .anil))) [3, 4, 5, 6] [5, 6] [.int p, tb S, .ptr h.length, u3, u4, u5, u6, u7, u8] d acc h2) turns 0 [] (h ++ [lds S, Z, CC]) = .oks ((dltL S).map D.bl) (h ++ [lds S, Z, CC]) := fun m u3 u4 u5 u6 u7 u8 => by
      rw [loopB_gen S.zipIdx (fun q => D.tup [.int (q.2 : Int), tr q.1]) (fun q => S.zipIdx.map fun s => D.bl (decide (at_ q.1 (ld s.1) = if q.2 = s.2 then 1 else 0))) (src_enr _ S) (fun q hq acc => by
        obtain ⟨r, i⟩ := q
        have hi := List.mem_zipIdx hq
        simp only [Nat.zero_add, Nat.sub_zero] at hi
        obtain ⟨_, hil, her⟩ := hi
        have hr : r ∈ S := by rw [her]; exact List.getElem_mem _
        have rr := hS r hr
        have as : asg (ev P (m + 20)) (.gt (.gcons (.gv 3) (.gcons (.gv 4) .gnil))) (.tup [.int (i : Int), tr r]) (wipeD [.int p, tb S, .ptr h.length, u3, u4, u5, u6, u7, u8] [3, 4, 5, 6]) (h ++ [lds S, Z, CC]) = .nx [.int p, tb S, .ptr h.length, .int (i : Int), tr r, .una, .una, u7, u8] (h ++ [lds S, Z, CC]) := by
          simp -implicitDefEqProofs [wipeD]
        rw [turnB_nx P as]
        simp -implicitDefEqProofs [enK_of (x := .ptr h.length) e4]
        rw [loopA_gen S.zipIdx (fun s => D.tup [.int (s.2 : Int), .int (ld s.1 : Int)]) (fun s => D.bl (decide (at_ r (ld s.1) = if i = s.2 then 1 else 0))) (fun j hj => by
          rw [src_enG (x := .ptr h.length) e4 j (by unfold lds; simpa using hj)]
          unfold lds
          rw [List.zipIdx_map, List.map_map]
          rfl) (fun s hs => by
          obtain ⟨t, j⟩ := s
          have hj := List.mem_zipIdx hs
          simp only [Nat.zero_add, Nat.sub_zero] at hj
          obtain ⟨_, hjl, het⟩ := hj
          have ht : t ∈ S := by rw [het]; exact List.getElem_mem _
          have ix := ix_tr (r := r) (i := ld t) (by rw [rr.len, ← (hS t ht).len]; exact hl t ht) (h ++ [lds S, Z, CC])
          rw [lcT_eq]
          simp -implicitDefEqProofs [wipeD, ix, pyEq_int]
          by_cases c : i = j
          · simp [c]
          · have c2 : ¬ ((i : Int) = (j : Int)) := by omega
            simp [c, c2]) turns 0 acc (by simp; unfold turns; omega) (Nat.zero_le _), List.drop_zero]) turns 0 [] (by simp; unfold turns; omega) (Nat.zero_le _) (by
          rw [List.drop_zero]
          have : (S.zipIdx.flatMap fun q => S.zipIdx.map fun s => D.bl (decide (at_ q.1 (ld s.1) = if q.2 = s.2 then 1 else 0))).length = S.length * S.length := by
            rw [List.length_flatMap]
            have e : (S.zipIdx.map fun q => (S.zipIdx.map fun s => D.bl (decide (at_ q.1 (ld s.1) = if q.2 = s.2 then 1 else 0))).length) = List.replicate S.length S.length := by
              rw [show (fun q : Row × Nat => (S.zipIdx.map fun s => D.bl (decide (at_ q.1 (ld s.1) = if q.2 = s.2 then 1 else 0))).length) = fun _ => S.length from funext fun q => by rw [List.length_map, List.length_zipIdx], List.map_const', List.length_zipIdx]
            rw [e, List.sum_replicate_nat]
          rw [this, List.length_nil, Nat.zero_add]
          exact Nat.le_trans (Nat.mul_le_mul bl bl) (by decide)), List.drop_zero]
      unfold dltL
      rw [List.map_flatMap]
      simp only [List.map_map]
      rfl
    have al2 := all_bl (dltL S) (h.length + 3) (h ++ [lds S, Z, CC, (dltL S).map D.bl]) (by rw [h_get]; rfl)
    generalize (dltL S).map D.bl = DD at *
    cases hc : C.all id with
    | true =>
      rw [hc] at al
      simp -implicitDefEqProofs [b15, gl, newL0, noneIn e1, sl, newL1, zpK_of (x := .ptr h.length) (y := .ptr (h.length + 1)) e2 e3, lc, al, enK_of (items_tb _ S), lb, al2, h_take]
    | false =>
      rw [hc] at al
      simp -implicitDefEqProofs [b15, gl, newL0, noneIn e1, sl, newL1, zpK_of (x := .ptr h.length) (y := .ptr (h.length + 1)) e2 e3, lc, al, h_take]
end K0
-- K0t
namespace K0
open PySem Ev Ev.Rx Li
def rowI : D → Row
  | .tup es => (intsD es).getD []
  | _ => []
def rowsI (ds : List D) : List Row := ds.map rowI
theorem rowsI_tbs (S : List Row) : rowsI (tbs S) = S := by
  unfold rowsI tbs
  rw [List.map_map]
  have : (rowI ∘ tr) = id := by
    funext r
    show (intsD (intL r)).getD [] = r
    rw [intsD_intL]
    rfl
  rw [this, List.map_id]
def spB (p : Int) (w : Nat) : D → Bool
  | .tup ds => ds.all (isRow p w) && redC (rowsI ds)
  | _ => false
def baB (p : Int) (w : Nat) : D → Bool
  | .tup ds => ds.all (fun d => isRow p w d && pos (rowI d)) && decide (rowsI ds = base p (iv p) (rowsI ds) w)
  | _ => false
theorem sp_ba {p : Int} (hp : Pr p) {w : Nat} (v : D) : spB p w v = baB p w v := by
  have hp0 : 0 < p := by have := hp.pos; omega
  cases v with
  | tup ds =>
    show (ds.all (isRow p w) && redC (rowsI ds)) = (ds.all (fun d => isRow p w d && pos (rowI d)) && decide (rowsI ds = base p (iv p) (rowsI ds) w))
    cases a : ds.all (isRow p w) with
    | false =>
      have : ds.all (fun d => isRow p w d && pos (rowI d)) = false := by
        rw [List.all_eq_false] at a ⊢
        obtain ⟨d, hd, hn⟩ := a
        refine ⟨d, hd, ?_⟩
        simp only [Bool.and_eq_true, not_and]
        intro z
        exact absurd z hn
      rw [this]
      rfl
    | true =>
      obtain ⟨S, rfl, hS⟩ := rows_of a
      rw [rowsI_tbs, Bool.true_and, Bool.eq_iff_iff, redC_iff hS, Bool.and_eq_true, decide_eq_true_eq]
      constructor
      · intro h
        refine ⟨List.all_eq_true.mpr fun d hd => ?_, (base_self hp.pos.1 (inv_iv hp) h).symm⟩
        obtain ⟨r, hr, rfl⟩ := List.mem_map.mp hd
        rw [isRow_tr (hS r hr), Bool.true_and]
        have e : rowI (tr r) = r := by show (intsD (intL r)).getD [] = r; rw [intsD_intL]; rfl
        rw [e]
        cases c : pos r with
        | true => rfl
        | false => exact absurd ((pos_iff hp0 (hS r hr)).mp c) (one_nz (h.one r hr))
      · rintro ⟨_, h⟩
        rw [h]
        exact (base_ok hp.pos.1 (inv_iv hp) hS).1
  | _ => rfl
theorem g_spin (n : Nat) {p : Int} (hp : Pr p) {w : Nat} (hw : w ≤ 200) (v : D) (nv : Near v) (vl : ∀ ds, v = .tup ds → ds.length ≤ 200) (h : Hh) : callF P (n + 70) 16 [.int p, .int (w : Int), v] h = .ok (.bl (spB p w v)) h := by
  obtain ⟨kv, nm, hv⟩ := nv
  rw [callF_at P fs16 rfl]
  have u := known_una kv
  cases v with
  | tup ds =>
    obtain ⟨k1, k2⟩ := hv ds rfl
    have k3 := vl ds rfl
    have lc : ∀ m, loopC (.sq (.tup ds)) (lcT P (m + 50) (.gv 3) (.cst (.bl true)) (.cal 3 (.acons (.var 0) (.acons (.var 1) (.acons (.var 3) .anil)))) [3] [.int p, .int (w : Int), .tup ds, .una]) turns 0 [] h = .oks (ds.map fun d => .bl (isRow p w d)) h := fun m =>
      loopC_map _ ds (fun i _ => rfl) (fun x hx => by
        rw [lcT_eq]
        simp -implicitDefEqProofs [wipeD, known_una (k1 x hx).1, g_row _ p w x (k1 x hx)]) (by omega)
    have sp : spB p w (.tup ds) = (ds.all (isRow p w) && redC (rowsI ds)) := rfl
    rw [sp]
    cases a : ds.all (isRow p w) with
    | false => simp -implicitDefEqProofs [b16, isi_tup, tyT, sqK, lc, newL0, bi_all0, a, h_take]
    | true =>
      obtain ⟨S, rfl, hS⟩ := rows_of a
      have gr := fun m hh => g_isred m hS (by rw [tbs_len] at k3; exact k3) hh
      rw [rowsI_tbs]
      have et : D.tup (tbs S) = tb S := rfl
      rw [et] at lc ⊢
      have is := fun hh => isi_tup (v := tb S) rfl hh
      have ty : tyT (tb S) = true := rfl
      rw [ty] at is
      simp -implicitDefEqProofs [b16, is, sqK_of (items_tb _ S), lc, newL0, bi_all0, a, h_take, gr]
  | mtp ds => exact absurd rfl (nm ds)
  | _ => simp -implicitDefEqProofs [b16, u, isi_tup kv, tyT, h_take0, spB]
theorem g_isspace (n : Nat) {p : Int} (hp : Pr p) {w : Nat} (w0 : 0 < w) (hw : w ≤ 100) (v : D) (nv : Near v) (vl : ∀ ds, v = .tup ds → ds.length ≤ 200) (h : Hh) : callF P (n + 80) 21 [.int p, .int (w : Int), v] h = .ok (.bl (spB p w v)) h := by
  rw [callF_at P fs21 rfl]
  have u := known_una nv.1
  simp -implicitDefEqProofs [b21, r_reqpw _ hp w0 hw, u, g_spin _ hp (show w ≤ 200 by omega) v nv vl, h_take0]
/-- a loop that may return -/
theorem loopF_until {s : Src} {f : D → Sg → Hh → R} (xs : List D) (good : D → Bool) (St : Sg → Hh → Prop) (Fin : Hh → Prop) (hs : ∀ i, i ≤ xs.length → ∀ σ h, St σ h → srcAt h s i = some xs[i]?)
    (step : ∀ d ∈ xs, ∀ σ h, St σ h → (good d = true → ∃ σ' h', f d σ h = .nx σ' h' ∧ St σ' h') ∧ (good d = false → ∃ h', f d σ h = .rt (.bl false) h' ∧ Fin h')) :
    ∀ (m i : Nat) (σ : Sg) (h : Hh), xs.length < m + i → i ≤ xs.length → St σ h → ((xs.drop i).all good = true ∧ ∃ σ' h', loopF s f m i σ h = .nx σ' h' ∧ St σ' h') ∨ ((xs.drop i).all good = false ∧ ∃ h', loopF s f m i σ h = .rt (.bl false) h' ∧ Fin h')
  | 0, i, σ, h, h1, h2, _ => by omega
  | m + 1, i, σ, h, h1, h2, st => by
    unfold loopF
    rw [hs i h2 σ h st]
    rcases Nat.lt_or_ge i xs.length with hi | hi
    · rw [List.getElem?_eq_getElem hi]
      dsimp only
      obtain ⟨z1, z2⟩ := step xs[i] (List.getElem_mem hi) σ h st
      rw [List.drop_eq_getElem_cons hi, List.all_cons]
      cases c : good xs[i] with
      | true =>
        obtain ⟨σ', h', e, st'⟩ := z1 c
        rw [e]
        dsimp only
        exact loopF_until xs good St Fin hs step m (i + 1) σ' h' (by omega) (by omega) st'
      | false =>
        obtain ⟨h', e, fi⟩ := z2 c
        rw [e]
        exact .inr ⟨rfl, h', rfl, fi⟩
    · rw [List.getElem?_eq_none hi, List.drop_eq_nil_of_le hi]
      exact .inl ⟨rfl, σ, h, rfl, st⟩
end K0
-- K0u
namespace K0
open PySem Ev Ev.Rx Li
def w29 : I := (.sCons (.sIf (.or (.not (.tv (.isi .isTupB (.var 3)))) (.one (.cmp .ne (.blt .len (.acons (.var 3) .anil)) (.var 1)))) (.sCons (.sRet (.cst (.bl false))) .sNil) .sNil) (.sCons (.sIf (.cmp .ne (.lc (.gv 4) (.iS (.var 3)) (.or (.not (.tv (.isi .isIntB (.var 4)))) (.one (.tv (.isi .isBoolB (.var 4))))) (.cst (.int 1)) [4]) (.lst .anil)) (.sCons (.sRet (.cst (.bl false))) .sNil) .sNil) (.sCons (.sIf (.or (.cmp .ne (.lc (.gv 4) (.iS (.var 3)) (.not (.chn .le .lt (.cst (.int 0)) (.var 4) (.var 0))) (.cst (.int 1)) [4]) (.lst .anil)) (.one (.cmp .eq (.blt .max1 (.acons (.var 3) .anil)) (.cst (.int 0))))) (.sCons (.sRet (.cst (.bl false))) .sNil) .sNil) .sNil)))
theorem b29_eq : b29 = (.sCons (.sIf (.not (.tv (.isi .isTupB (.var 2)))) (.sCons (.sRet (.cst (.bl false))) .sNil) .sNil) (.sCons (.sFor (.gv 3) (.iS (.var 2)) w29) (.sCons (.sRet (.cmp .eq (.var 2) (.cal 28 (.acons (.var 0) (.acons (.blt .list (.acons (.var 2) .anil)) (.acons (.var 1) .anil)))))) .sNil))) := rfl
def bad1 (x : D) : Bool := !(tyI x) || tyB x
theorem ones (α : Type) (l : List α) : (l.map fun _ => D.int 1) = intL (List.replicate l.length 1) := by
  unfold intL
  rw [List.map_const', List.map_replicate]
theorem lc29a (m : Nat) {es : List D} (hk : ∀ d ∈ es, known d = true) (el : es.length ≤ 1000) (u0 u1 u2 u4 : D) (h : Hh) :
    loopC (.sq (.tup es)) (lcT P (m + 15) (.gv 4) (.or (.not (.tv (.isi .isIntB (.var 4)))) (.one (.tv (.isi .isBoolB (.var 4))))) (.cst (.int 1)) [4] [u0, u1, u2, .tup es, u4]) turns 0 [] h = .oks (intL (List.replicate (es.filter bad1).length 1)) h := by
  rw [lc_sel es id bad1 (fun _ => .int 1) (fun i _ => by rw [List.map_id]; rfl) (fun d hd => by
    have kd := hk d hd
    have u := known_una kd
    rw [lcT_eq]
    simp -implicitDefEqProofs [wipeD, u, isi_int kd, isi_bl kd]
    unfold bad1
    cases tyI d <;> cases tyB d <;> simp) (by omega), ones]
theorem lc29b (m : Nat) {p : Int} {r : Row} (rl : r.length ≤ 1000) (u1 u2 u4 : D) (h : Hh) :
    loopC (.sq (tr r)) (lcT P (m + 15) (.gv 4) (.not (.chn .le .lt (.cst (.int 0)) (.var 4) (.var 0))) (.cst (.int 1)) [4] [.int p, u1, u2, tr r, u4]) turns 0 [] h = .oks (intL (List.replicate (r.filter fun x => !(decide (0 ≤ x) && decide (x < p))).length 1)) h := by
  rw [lc_sel r D.int (fun x => !(decide (0 ≤ x) && decide (x < p))) (fun _ => .int 1) (fun i _ => rfl) (fun x hx => by
    rw [lcT_eq]
    simp -implicitDefEqProofs [wipeD]
    by_cases a : 0 ≤ x <;> by_cases b : x < p <;> simp [a, b] <;> omega) (by omega), ones]
def good (p : Int) (w : Nat) (d : D) : Bool := isRow p w d && pos (rowI d)
theorem nobad : ∀ {es : List D}, es.filter bad1 = [] → ∃ r : Row, es = intL r
  | [], _ => ⟨[], rfl⟩
  | d :: es, h => by
    rw [List.filter_cons] at h
    cases c : bad1 d with
    | true => rw [c] at h; cases h
    | false =>
      rw [c] at h
      obtain ⟨r, rfl⟩ := nobad (es := es) (by simpa using h)
      cases d with
      | int i => exact ⟨i :: r, rfl⟩
      | bl b => cases c
      | _ => cases c
theorem bad_row {p : Int} {w : Nat} {es : List D} (h : es.filter bad1 ≠ []) : isRow p w (.tup es) = false := by
  obtain ⟨d, hd⟩ := List.exists_mem_of_ne_nil _ h
  obtain ⟨h1, h2⟩ := List.mem_filter.mp hd
  show (decide (es.length = w) && es.all (inW 0 (p - 1))) = false
  have : es.all (inW 0 (p - 1)) = false := by
    rw [List.all_eq_false]
    refine ⟨d, h1, ?_⟩
    cases d with
    | int i => cases h2
    | _ => exact Bool.false_ne_true
  rw [this, Bool.and_false]
theorem st29 (m : Nat) {p : Int} (hp : Pr p) {w : Nat} (w0 : 0 < w) (hw : w ≤ 200) (v d : D) (nd : Near1 d) (u4 : D) (h : Hh) :
    (good p w d = true → ∃ q, ev P (m + 60) w29 [.int p, .int (w : Int), v, d, u4] h = .nx [.int p, .int (w : Int), v, d, u4] (h ++ q)) ∧
    (good p w d = false → ∃ q, ev P (m + 60) w29 [.int p, .int (w : Int), v, d, u4] h = .rt (.bl false) (h ++ q)) := by
  obtain ⟨kv, nm, hv⟩ := nd
  have u := known_una kv
  have ll : ∀ hh : Hh, lstK [] hh = newL hh (intL []) := fun _ => rfl
  cases d with
  | tup es =>
    obtain ⟨k1, k2⟩ := hv es rfl
    by_cases c : es.length = w
    · have c' : (es.length : Int) = (w : Int) := by omega
      have la := fun m u0 u1 u2 u4 hh => lc29a m k1 k2 u0 u1 u2 u4 hh
      by_cases b : es.filter bad1 = []
      · obtain ⟨r, rfl⟩ := nobad b
        rw [b] at la
        rw [intL_len] at c k2
        have e1 : (h ++ [intL [], intL []])[h.length]? = some (intL []) := by rw [h_get0]; rfl
        have e2 : (h ++ [intL [], intL []])[h.length + 1]? = some (intL []) := by rw [h_get]; rfl
        have pe := pyEq_lst e1 e2
        have et : D.tup (intL r) = tr r := rfl
        have lb := fun m u1 u2 u4 hh => lc29b m (p := p) k2 u1 u2 u4 hh
        have is := fun hh => isi_tup (v := tr r) rfl hh
        have ty : tyT (tr r) = true := rfl
        rw [ty] at is
        have ln : ∀ hh : Hh, builtin .len [tr r] hh = .ok (.int (w : Int)) hh := fun hh => by rw [bi_len (items_tr hh r), intL_len, c]
        rw [et] at la ⊢
        by_cases b2 : (r.filter fun x => !(decide (0 ≤ x) && decide (x < p))) = []
        · have rr : Rw p w r := ⟨c, fun x hx => by
            have := List.filter_eq_nil_iff.mp b2 x hx
            simp at this
            exact this⟩
          rw [b2] at lb
          obtain ⟨g, g1, g2, g3⟩ := max_tr rr w0
          have e3 : (h ++ [intL [], intL [], intL [], intL []])[h.length + 2]? = some (intL []) := by rw [h_get]; rfl
          have e4 : (h ++ [intL [], intL [], intL [], intL []])[h.length + 3]? = some (intL []) := by rw [h_get]; rfl
          have pe2 := pyEq_lst e3 e4
          have gd : good p w (tr r) = pos r := by
            unfold good
            rw [isRow_tr rr, Bool.true_and]
            have e : rowI (tr r) = r := by show (intsD (intL r)).getD [] = r; rw [intsD_intL]; rfl
            rw [e]
          rw [gd]
          simp only [List.length_nil, List.replicate] at la lb
          cases cg : pos r with
          | true =>
            rw [cg] at g3
            have g0 : ¬ g = 0 := by simpa using g3
            refine ⟨fun _ => ⟨[intL [], intL [], intL [], intL []], ?_⟩, fun z => (by cases z)⟩
            simp -implicitDefEqProofs [w29, is, ln, pyEq_int, sqK_of (items_tr _ r), la, newL0, ll, newL1, pe, lb, pe2, g1, g0]
          | false =>
            rw [cg] at g3
            have g0 : g = 0 := by simpa using g3
            refine ⟨fun z => (by cases z), fun _ => ⟨[intL [], intL [], intL [], intL []], ?_⟩⟩
            simp -implicitDefEqProofs [w29, is, ln, pyEq_int, sqK_of (items_tr _ r), la, newL0, ll, newL1, pe, lb, pe2, g1, g0]
        · have nr : good p w (tr r) = false := by
            unfold good
            have : isRow p w (tr r) = false := by
              obtain ⟨x, hx⟩ := List.exists_mem_of_ne_nil _ b2
              obtain ⟨h1, h2⟩ := List.mem_filter.mp hx
              cases z : isRow p w (tr r) with
              | false => rfl
              | true =>
                obtain ⟨r', e, hr⟩ := isRow_row z
                have : r' = r := by
                  have z2 := congrArg rowI e
                  have e3 : ∀ r : Row, rowI (tr r) = r := fun r => by show (intsD (intL r)).getD [] = r; rw [intsD_intL]; rfl
                  rw [e3, e3] at z2
                  exact z2.symm
                subst this
                have := hr.res x h1
                simp [this] at h2
            rw [this]; rfl
          obtain ⟨k, hk⟩ : ∃ k, (r.filter fun x => !(decide (0 ≤ x) && decide (x < p))).length = k + 1 := ⟨(r.filter fun x => !(decide (0 ≤ x) && decide (x < p))).length - 1, by have := List.length_pos_iff.mpr b2; omega⟩
          rw [hk] at lb
          rw [nr]
          have e3 : (h ++ [intL [], intL [], intL (List.replicate (k + 1) 1), intL []])[h.length + 2]? = some (intL (List.replicate (k + 1) 1)) := by rw [h_get]; rfl
          have e4 : (h ++ [intL [], intL [], intL (List.replicate (k + 1) 1), intL []])[h.length + 3]? = some (intL []) := by rw [h_get]; rfl
          have pe2 := pyEq_lst e3 e4
          have nn : decide (List.replicate (k + 1) (1 : Int) = []) = false := by rw [List.replicate_succ]; rfl
          rw [nn] at pe2
          generalize intL (List.replicate (k + 1) 1) = Y at *
          simp only [List.length_nil, List.replicate] at la
          refine ⟨fun z => (by cases z), fun _ => ⟨[intL [], intL [], Y, intL []], ?_⟩⟩
          simp -implicitDefEqProofs [w29, is, ln, pyEq_int, sqK_of (items_tr _ r), la, newL0, ll, newL1, pe, lb, pe2]
      · have nr : good p w (.tup es) = false := by unfold good; rw [bad_row b]; rfl
        rw [nr]
        obtain ⟨k, hk⟩ : ∃ k, (es.filter bad1).length = k + 1 := ⟨(es.filter bad1).length - 1, by have := List.length_pos_iff.mpr b; omega⟩
        rw [hk] at la
        have e1 : (h ++ [intL (List.replicate (k + 1) 1), intL []])[h.length]? = some (intL (List.replicate (k + 1) 1)) := by rw [h_get0]; rfl
        have e2 : (h ++ [intL (List.replicate (k + 1) 1), intL []])[h.length + 1]? = some (intL []) := by rw [h_get]; rfl
        have pe := pyEq_lst e1 e2
        have nn : decide (List.replicate (k + 1) (1 : Int) = []) = false := by rw [List.replicate_succ]; rfl
        rw [nn] at pe
        generalize intL (List.replicate (k + 1) 1) = Y at *
        refine ⟨fun z => (by cases z), fun _ => ⟨[Y, intL []], ?_⟩⟩
        simp -implicitDefEqProofs [w29, isi_tup, tyT, c, pyEq_int, sqK, la, newL0, ll, newL1, pe]
    · have c' : ¬ (es.length : Int) = (w : Int) := by omega
      have nr : good p w (.tup es) = false := by
        show ((decide (es.length = w) && es.all (inW 0 (p - 1))) && _) = false
        rw [decide_eq_false c]
        rfl
      rw [nr]
      refine ⟨fun z => (by cases z), fun _ => ⟨[], ?_⟩⟩
      simp -implicitDefEqProofs [w29, isi_tup, tyT, c', pyEq_int]
  | mtp ds => exact absurd rfl (nm ds)
  | _ =>
    refine ⟨fun z => (by cases z), fun _ => ⟨[], ?_⟩⟩
    simp -implicitDefEqProofs [w29, u, isi_tup kv, tyT]
theorem g_isbase (n : Nat) {p : Int} (hp : Pr p) {w : Nat} (w0 : 0 < w) (hw : w ≤ 200) (v : D) (nv : Near v) (vl : ∀ ds, v = .tup ds → ds.length ≤ 200) (h : Hh) : callF P (n + 90) 29 [.int p, .int (w : Int), v] h = .ok (.bl (baB p w v)) h := by
  obtain ⟨kv, nm, hv⟩ := nv
  rw [callF_at P fs29 rfl, b29_eq]
  have u := known_una kv
  cases v with
  | tup ds =>
    obtain ⟨k1, k2⟩ := hv ds rfl
    have k3 := vl ds rfl
    have ba : baB p w (.tup ds) = (ds.all (good p w) && decide (rowsI ds = base p (iv p) (rowsI ds) w)) := rfl
    rw [ba]
    have lp : ∀ m, (ds.all (good p w) = true ∧ ∃ v : D × D × Hh, loopF (.sq (.tup ds)) (forT P (m + 60) (.gv 3) w29) turns 0 [.int p, .int (w : Int), .tup ds, .una, .una] h = .nx [.int p, .int (w : Int), .tup ds, v.1, v.2.1] (h ++ v.2.2)) ∨
        (ds.all (good p w) = false ∧ ∃ q : Hh, loopF (.sq (.tup ds)) (forT P (m + 60) (.gv 3) w29) turns 0 [.int p, .int (w : Int), .tup ds, .una, .una] h = .rt (.bl false) (h ++ q)) := fun m => by
      have key := loopF_until (s := .sq (.tup ds)) (f := forT P (m + 60) (.gv 3) w29) ds (good p w) (fun σ hh => ∃ u3 u4 q, σ = [.int p, .int (w : Int), .tup ds, u3, u4] ∧ hh = h ++ q) (fun hh => ∃ q, hh = h ++ q) (fun i _ σ hh _ => rfl)
        (fun d hd σ hh ⟨u3, u4, q, e1, e2⟩ => by
          subst e1 e2
          obtain ⟨z1, z2⟩ := st29 m hp w0 hw (.tup ds) d (k1 d hd) u4 (h ++ q)
          refine ⟨fun g => ?_, fun g => ?_⟩
          · obtain ⟨q2, e⟩ := z1 g
            exact ⟨_, _, e, d, u4, q ++ q2, rfl, List.append_assoc ..⟩
          · obtain ⟨q2, e⟩ := z2 g
            exact ⟨_, e, q ++ q2, List.append_assoc ..⟩) turns 0 [.int p, .int (w : Int), .tup ds, .una, .una] h (by unfold turns; omega) (Nat.zero_le _) ⟨.una, .una, [], rfl, (List.append_nil h).symm⟩
      rw [List.drop_zero] at key
      rcases key with ⟨a, σ', h', e, u3, u4, q, e1, e2⟩ | ⟨a, h', e, q, e2⟩
      · exact .inl ⟨a, (u3, u4, q), e.trans (by rw [e1, e2])⟩
      · exact .inr ⟨a, q, e.trans (by rw [e2])⟩
    cases a : ds.all (good p w) with
    | false =>
      obtain ⟨q, lp⟩ := pick1 (fun m => ((lp m).resolve_left fun z => by rw [a] at z; cases z.1).2)
      simp -implicitDefEqProofs [isi_tup, tyT, sqK, lp, h_take]
    | true =>
      obtain ⟨q, lp⟩ := pick1 (fun m => ((lp m).resolve_right fun z => by rw [a] at z; cases z.1).2)
      have a' : ds.all (isRow p w) = true := by
        rw [List.all_eq_true] at a ⊢
        exact fun d hd => (bnd (a d hd)).1
      obtain ⟨S, rfl, hS⟩ := rows_of a'
      rw [rowsI_tbs]
      rw [tbs_len] at k3
      have et : D.tup (tbs S) = tb S := rfl
      rw [et] at lp ⊢
      have is := fun hh => isi_tup (v := tb S) rfl hh
      have ty : tyT (tb S) = true := rfl
      rw [ty] at is
      have li : ∀ q : Hh, builtin .list [tb S] (h ++ q) = .ok (.ptr (h.length + q.length)) (h ++ (q ++ [tbs S])) := fun q => newL1 h q (tbs S)
      have bs := fun m (q : Hh) => r_lbase m hp w0 (show w ≤ 900 by omega) hS (by omega) (.ptr (h.length + q.length)) (h ++ (q ++ [tbs S])) rfl (by rw [items_ptr, h_get, List.getElem?_append_right (Nat.le_refl _), Nat.sub_self]; rfl)
      simp -implicitDefEqProofs [is, sqK_of (items_tb _ S), lp, li, bs, pyEq_tb, h_take]
  | mtp ds => exact absurd rfl (nm ds)
  | _ => simp -implicitDefEqProofs [u, isi_tup kv, tyT, h_take0, baB]
end K0
-- K0v
namespace K0
open PySem Ev Ev.Rx Li
theorem cs2 : P.cs[2]? = some (.int 200) := rfl
theorem r_spaceof (n : Nat) {p : Int} (hp : Pr p) {w : Nat} (w0 : 0 < w) (hw : w ≤ 100) {S : List Row} (hS : Rws p w S) (sl : S.length ≤ 200) (h : Hh) : callF P (n + 100) 20 [.int p, .int (w : Int), tb S] h = .ok (tb (redd p (iv p) S)) h := by
  rw [callF_at P fs20 rfl]
  have lc : ∀ m, loopC (.sq (tb S)) (lcT P (m + 50) (.gv 4) (.cst (.bl true)) (.cal 3 (.acons (.var 0) (.acons (.var 1) (.acons (.var 4) .anil)))) [4] [.int p, .int (w : Int), tb S, .bl true, .una]) turns 0 [] h = .oks (S.map fun _ => .bl true) h := fun m => by
    rw [lc_all S tr (fun _ => .bl true) (fun i _ => src_tb h S i) (fun r hr => by
      rw [lcT_eq]
      simp -implicitDefEqProofs [wipeD, r_row _ r (hS r hr) (show w ≤ 1000 by omega)]) (by omega)]
  have ln : builtin .len [tb S] h = .ok (.int (S.length : Int)) h := by rw [bi_len (items_tb h S), tbs_len]
  have is := isi_tup (v := tb S) rfl h
  have ty : tyT (tb S) = true := rfl
  rw [ty] at is
  have rd := fun m hh => r_redd m hp (w := w) (by omega) hS (by omega) (tb S) hh rfl rfl
  have l2 : (S.length : Int) ≤ 200 := by omega
  simp -implicitDefEqProofs [b20, r_reqpw _ hp w0 hw, is, ln, cs2, l2, sqK_of (items_tb h S), lc, newL0, bi_all0 (fun _ => true), rd, h_take]
theorem extK_of {a b : Nat} {ds es : List D} {h : Hh} (ea : h[a]? = some ds) (eb : h[b]? = some es) (np : es.any isPtr = false) (hl : ds.length + es.length ≤ 1000000) : extK (.ptr a) (.ptr b) h = .ok .non (h.set a (ds ++ es)) := by
  show (match h[a]?, h[b]? with
    | some ds, some es => (match es.any isPtr with
      | true => R.no
      | false => (match catO ds es with
        | some fs => .ok .non (h.set a fs)
        | none => .no))
    | _, _ => .no) = _
  rw [ea, eb]
  dsimp only
  rw [np, catO_of hl]
def i31 : I := .sCons (.sExp (.ext (.var 5) (.lc (.gv 7) (.iS (.var 3)) (.cst (.bl true)) (.cal 27 (.acons (.var 0) (.acons (.var 7) (.acons (.var 4) (.acons (.var 6) .anil))))) [7]))) .sNil
theorem lc31 (m : Nat) {p : Int} (hp : Pr p) {w : Nat} (hw : w ≤ 100) {F : List Row} (hF : Rws p w F) (fl : F.length ≤ 1000) {r : Row} (hr : Rw p w r) (c : Nat) (hc : c < 7) (f : Nat) (u1 u2 u5 u7 : D) (h : Hh) (ef : h[f]? = some (tbs F)) :
    loopC (.sq (.ptr f)) (lcT P (m + 30) (.gv 7) (.cst (.bl true)) (.cal 27 (.acons (.var 0) (.acons (.var 7) (.acons (.var 4) (.acons (.var 6) .anil))))) [7] [.int p, u1, u2, .ptr f, tr r, u5, .int (c : Int), u7]) turns 0 [] h = .oks (tbs (F.map fun v => ad p v r (c : Int))) h := by
  have hp0 : 0 < p := by have := hp.pos; omega
  rw [lc_all F tr (fun v => tr (ad p v r (c : Int))) (fun i _ => Ev.Rx.src_sq (x := .ptr f) ef i) (fun v hv => by
    have rv := hF v hv
    rw [lcT_eq]
    simp -implicitDefEqProofs [wipeD, r_plus _ p (c : Int) hp0 (show ((c : Int)).natAbs < 2 ^ 64 by omega) v r h (rv.len.trans hr.len.symm) (by rw [rv.len]; omega)]) (by omega)]
  unfold tbs
  rw [List.map_map]
  rfl
theorem in31 (m : Nat) {p : Int} (hp : Pr p) {w : Nat} (hw : w ≤ 100) {F : List Row} (hF : Rws p w F) (fl : F.length ≤ 1000) {r : Row} (hr : Rw p w r) (f : Nat) (u1 u2 u6 u7 : D) (h : Hh) (ef : h[f]? = some (tbs F)) :
    ∃ v : D × Hh, loopF (.rg 0 1 p.toNat) (forT P (m + 60) (.gv 6) i31) turns 0 [.int p, u1, u2, .ptr f, tr r, .ptr h.length, u6, u7] (h ++ [tbs []]) = .nx [.int p, u1, u2, .ptr f, tr r, .ptr h.length, v.1, u7] (h ++ tbs (ext1 p F r) :: v.2) := by
  have pp := hp.pos
  obtain ⟨σ', h', e, u6', q, e1, e2⟩ := loopF_inv (s := .rg 0 1 p.toNat) (f := forT P (m + 60) (.gv 6) i31)
    (fun i σ hh => ∃ u6 q, σ = [.int p, u1, u2, .ptr f, tr r, .ptr h.length, u6, u7] ∧ hh = h ++ tbs ((List.range i).flatMap fun (c : Nat) => F.map fun v => ad p v r (c : Int)) :: q) p.toNat
    (fun i σ hh hi ⟨u6, q, e1, e2⟩ => by
      subst e1 e2
      have ll : ((List.range i).flatMap fun (c : Nat) => F.map fun v => ad p v r (c : Int)).length = i * F.length := by
        rw [List.length_flatMap]
        simp only [List.length_map, List.map_const', List.length_range, List.sum_replicate_nat]
      have lb : i * F.length ≤ 7 * 1000 := Nat.mul_le_mul (by omega) fl
      have sx : (List.range (i + 1)).flatMap (fun (c : Nat) => F.map fun v => ad p v r (c : Int)) = ((List.range i).flatMap fun (c : Nat) => F.map fun v => ad p v r (c : Int)) ++ F.map fun v => ad p v r (i : Int) := by
        rw [List.range_succ, List.flatMap_append]
        simp
      rw [sx]
      generalize ((List.range i).flatMap fun (c : Nat) => F.map fun v => ad p v r (c : Int)) = L at *
      have ef2 := ap_get ef (tbs L :: q)
      have lc := fun m u7 => lc31 m hp hw hF fl hr i (by omega) f u1 u2 (.ptr h.length) u7 (h ++ tbs L :: q) ef2
      have ml : (F.map fun v => ad p v r (i : Int)).length = F.length := List.length_map ..
      generalize (F.map fun v => ad p v r (i : Int)) = M at *
      have nl : newL (h ++ tbs L :: q) (tbs M) = .ok (.ptr (h.length + (q.length + 1))) (h ++ tbs L :: (q ++ [tbs M])) := by rw [newL1]; simp
      have g1 : (h ++ tbs L :: (q ++ [tbs M]))[h.length]? = some (tbs L) := by rw [h_get0]; rfl
      have g2 : (h ++ tbs L :: (q ++ [tbs M]))[h.length + (q.length + 1)]? = some (tbs M) := by rw [h_get]; simp
      have ex := extK_of g1 g2 (tbs_any M) (by rw [tbs_len, tbs_len]; omega)
      rw [h_set0, List.set_cons_zero, tbs_app] at ex
      refine ⟨_, [.int p, u1, u2, .ptr f, tr r, .ptr h.length, .int (i : Int), u7], h ++ tbs (L ++ M) :: (q ++ [tbs M]), src_rgi hi, .inl ?_, .int (i : Int), q ++ [tbs M], rfl, rfl⟩
      simp -implicitDefEqProofs [i31, sqK_of (x := .ptr f) ef2, lc, nl, ex])
    (fun σ hh _ => src_end) turns 0 _ _ (by unfold turns; omega) (Nat.zero_le _) ⟨u6, [], rfl, rfl⟩
  exact ⟨(u6', q), e.trans (by rw [e1, e2]; rfl)⟩
def w31 : I := .sCons (.sAsg (.gv 5) (.lst .anil)) (.sCons (.sFor (.gv 6) (.iR (.acons (.var 0) .anil)) i31) (.sCons (.sAsg (.gv 3) (.blt .list (.acons (.var 5) .anil))) .sNil))
theorem b31_eq : b31 = .sCons (.sAsg (.gv 3) (.lst (.acons (.bin .mul (.tup (.acons (.cst (.int 0)) .anil)) (.var 2)) .anil))) (.sCons (.sFor (.gv 4) (.iS (.var 1)) w31) (.sCons (.sRet (.var 3)) .sNil)) := rfl
theorem rngKp {p : Int} (hp : Pr p) (h : Hh) : rngK [.int p] h = .osr (.rg 0 1 p.toNat) h := by
  rcases hp with rfl | rfl | rfl | rfl <;> rfl
theorem st31 (m : Nat) {p : Int} (hp : Pr p) {w : Nat} (hw : w ≤ 100) {F : List Row} (hF : Rws p w F) (fl : F.length ≤ 1000) {r : Row} (hr : Rw p w r) (f : Nat) (u1 u2 u5 u6 u7 : D) (h : Hh) (ef : h[f]? = some (tbs F)) :
    ∃ v : D × D × Hh × Nat, ev P (m + 80) w31 [.int p, u1, u2, .ptr f, tr r, u5, u6, u7] h = .nx [.int p, u1, u2, .ptr v.2.2.2, tr r, v.1, v.2.1, u7] (h ++ v.2.2.1) ∧ (h ++ v.2.2.1)[v.2.2.2]? = some (tbs (ext1 p F r)) ∧ h.length ≤ v.2.2.2 := by
  obtain ⟨v, l1⟩ := pick1 (fun m => in31 m hp hw hF fl hr f u1 u2 u6 u7 h ef)
  generalize ext1 p F r = E at *
  refine ⟨(.ptr h.length, (v (m + 17)).1, tbs E :: ((v (m + 17)).2 ++ [tbs E]), h.length + ((v (m + 17)).2.length + 1)), ?_, by rw [h_get]; simp, Nat.le_add_right _ _⟩
  have ll : ∀ hh : Hh, lstK [] hh = newL hh (tbs []) := fun _ => rfl
  have li : ∀ q : Hh, builtin .list [.ptr h.length] (h ++ tbs E :: q) = .ok (.ptr (h.length + (q.length + 1))) (h ++ tbs E :: (q ++ [tbs E])) := fun q => by
    have e : (h ++ tbs E :: q)[h.length]? = some (tbs E) := by rw [h_get0]; rfl
    have : builtin .list [.ptr h.length] (h ++ tbs E :: q) = newL (h ++ tbs E :: q) (tbs E) := by
      show (match itemsOf (h ++ tbs E :: q) (.ptr h.length) with | some ds => newL (h ++ tbs E :: q) ds | none => .no) = _
      rw [items_ptr, e]
    rw [this, newL1]
    simp
  simp -implicitDefEqProofs [w31, ll, newL0, rngKp hp, l1, li]
theorem sums_len_le {p : Int} (hp : Pr p) (B : List Row) (w i : Nat) (hb : B.length ≤ 2) : ((B.take i).foldl (ext1 p) [zr w]).length ≤ 1000 := by
  have key : ∀ (C F : List Row), (C.foldl (ext1 p) F).length = p.toNat ^ C.length * F.length := by
    intro C
    induction C with
    | nil => intro F; simp
    | cons r C ih =>
      intro F
      rw [List.foldl_cons, ih, ext1_len, List.length_cons, Nat.pow_succ, Nat.mul_assoc]
  rw [key]
  have l2 : (B.take i).length ≤ 2 := by rw [List.length_take]; omega
  have pp := hp.pos
  have p7 : p.toNat ≤ 7 := by omega
  have : p.toNat ^ (B.take i).length ≤ 7 ^ 2 := Nat.le_trans (Nat.pow_le_pow_left p7 _) (Nat.pow_le_pow_right (by decide) l2)
  simp
  have e : (7 : Nat) ^ 2 = 49 := by decide
  rw [e, List.length_take] at this
  omega
theorem r_sums (n : Nat) {p : Int} (hp : Pr p) {w : Nat} (hw : w ≤ 100) {B : List Row} (hB : Rws p w B) (bl : B.length ≤ 2) (b : Nat) (h : Hh) (eb : h[b]? = some (tbs B)) :
    callF P (n + 100) 31 [.int p, .ptr b, .int (w : Int)] h = .ok (.ptr h.length) (h ++ [tbs (sumsF p w B)]) := by
  rw [callF_at P fs31 rfl, b31_eq]
  have hp0 : 0 < p := by have := hp.pos; omega
  have lp : ∀ m, ∃ v : D × D × D × Nat × Hh, loopF (.sq (.ptr b)) (forT P (m + 80) (.gv 4) w31) turns 0 [.int p, .ptr b, .int (w : Int), .ptr h.length, .una, .una, .una, .una] (h ++ [tbs [zr w]]) = .nx [.int p, .ptr b, .int (w : Int), .ptr v.2.2.2.1, v.1, v.2.1, v.2.2.1, .una] (h ++ v.2.2.2.2) ∧ (h ++ v.2.2.2.2)[v.2.2.2.1]? = some (tbs (sumsF p w B)) ∧ h.length ≤ v.2.2.2.1 := fun m => by
    obtain ⟨σ', h', e, u4, u5, u6, f, q, e1, e2, e3, e4⟩ := loopF_inv (s := .sq (.ptr b)) (f := forT P (m + 80) (.gv 4) w31)
      (fun i σ hh => ∃ u4 u5 u6 f q, σ = [.int p, .ptr b, .int (w : Int), .ptr f, u4, u5, u6, .una] ∧ hh = h ++ q ∧ (h ++ q)[f]? = some (tbs ((B.take i).foldl (ext1 p) [zr w])) ∧ h.length ≤ f) B.length
      (fun i σ hh hi ⟨u4, u5, u6, f, q, e1, e2, e3, e4⟩ => by
        subst e1 e2
        have rr := hB _ (List.getElem_mem hi)
        have hF : Rws p w ((B.take i).foldl (ext1 p) [zr w]) := sums_rws hp0 (rws_take hB i)
        have fl := sums_len_le hp B w i bl
        have st := foldl_take (ext1 p) [zr w] hi
        rw [st]
        generalize (B.take i).foldl (ext1 p) [zr w] = F at *
        obtain ⟨v, r1, r2, r3⟩ := st31 m hp hw hF fl rr f (.ptr b) (.int (w : Int)) u5 u6 .una (h ++ q) e3
        refine ⟨tr B[i], _, _, ?_, .inl r1, tr B[i], v.1, v.2.1, v.2.2.2, q ++ v.2.2.1, rfl, List.append_assoc .., by rw [← List.append_assoc]; exact r2, ?_⟩
        · rw [Ev.Rx.src_sq (x := .ptr b) (ap_get eb q), tbs_get, List.getElem?_eq_getElem hi]
          rfl
        · rw [List.length_append] at r3; omega)
      (fun σ hh ⟨u4, u5, u6, f, q, e1, e2, e3, e4⟩ => by
        subst e2
        rw [Ev.Rx.src_sq (x := .ptr b) (ap_get eb q), tbs_get, List.getElem?_eq_none (Nat.le_refl _)]
        rfl) turns 0 _ _ (by unfold turns; omega) (Nat.zero_le _) ⟨.una, .una, .una, h.length, [tbs [zr w]], rfl, rfl, by rw [h_get0]; rfl, Nat.le_refl _⟩
    rw [List.take_of_length_le (Nat.le_refl _)] at e3
    exact ⟨(u4, u5, u6, f, q), e.trans (by rw [e1, e2]), e3, e4⟩
  obtain ⟨v, lp⟩ := pick1 lp
  have l1 := fun m => (lp m).1
  have tk : tupK [.int 0] h = .ok (.tup [.int 0]) h := rfl
  have ll : lstK [tr (zr w)] h = .ok (.ptr h.length) (h ++ [tbs [zr w]]) := rfl
  have rp : binop .mul (.tup [.int 0]) (.int (w : Int)) h = .ok (tr (zr w)) h := rep1T 0 (by omega) h
  have bk := fun m => back_at h.length (lp m).2.2 (lp m).2.1 (tbs_any _) (h_take h _)
  simp -implicitDefEqProofs [tk, rp, ll, sqK_of (x := .ptr b) (ap_get eb [tbs [zr w]]), l1, bk]
end K0
-- K0w
namespace K0
open PySem Ev Ev.Rx Li
def inF (p : Int) (T : List Row) (x : Row × K3) : Row × K3 := T.foldl (fun x o => (ad p x.1 o (lad x.2 p).1, (lad x.2 p).2)) x
def c33 : I := .sCons (.sAsg (.gv 8) (.cal 27 (.acons (.var 1) (.acons (.var 8) (.acons (.var 9) (.acons (.cal 24 (.acons (.var 0) (.acons (.var 1) .anil))) .anil)))))) .sNil
theorem inF_rw {p : Int} {w : Nat} (hp0 : 0 < p) : ∀ {T : List Row}, Rws p w T → ∀ {x : Row × K3}, Rw p w x.1 → Rw p w (inF p T x).1
  | [], _, _, h => h
  | o :: T, hT, x, h => inF_rw hp0 (T := T) (fun s hs => hT s (List.mem_cons_of_mem _ hs)) (x := (ad p x.1 o (lad x.2 p).1, (lad x.2 p).2)) (h.ad hp0 (hT o (List.mem_cons_self ..)).len _)
theorem inF_sp {p : Int} {w : Nat} (hp0 : 0 < p) : ∀ {T A : List Row}, Rws p w A → (∀ o ∈ T, o ∈ A) → ∀ {x : Row × K3} {u r : Row} {c : Int}, Sp p w A u → r.length = w → x.1 = ad p u r c → ∃ u', Sp p w A u' ∧ (inF p T x).1 = ad p u' r c
  | [], A, hA, hT, x, u, r, c, hu, hr, e => ⟨u, hu, e⟩
  | o :: T, A, hA, hT, x, u, r, c, hu, hr, e => by
    have ho := hT o (List.mem_cons_self ..)
    refine inF_sp hp0 (T := T) hA (fun s hs => hT s (List.mem_cons_of_mem _ hs)) (x := (ad p x.1 o (lad x.2 p).1, (lad x.2 p).2)) (u := ad p u o (lad x.2 p).1) (.add _ hu ho) hr ?_
    show ad p x.1 o (lad x.2 p).1 = _
    rw [e, ad_comm (hu.rw hp0 hA).len hr (hA o ho).len]
theorem in33 (m : Nat) {p : Int} (hp : Pr p) {w : Nat} (hw : w ≤ 100) {T : List Row} (hT : Rws p w T) (tl : T.length ≤ 1000) {a : Nat} {h : Hh} (ha : a < h.length) (q : Hh) (u2 u3 u4 u5 u6 u7 u9 : D) (k : K3) {v : Row} (hv : Rw p w v) :
    ∃ v9 : D, loopF (.sq (.ptr (h.length + q.length))) (forT P (m + 60) (.gv 9) c33) turns 0 [.ptr a, .int p, u2, u3, u4, u5, u6, u7, tr v, u9] (h.set a (kl k) ++ (q ++ [tbs T])) = .nx [.ptr a, .int p, u2, u3, u4, u5, u6, u7, tr (inF p T (v, k)).1, v9] (h.set a (kl (inF p T (v, k)).2) ++ (q ++ [tbs T])) := by
  have hp0 : 0 < p := by have := hp.pos; omega
  have pp := hp.pos
  have gt : ∀ k : K3, itemsOf (h.set a (kl k) ++ (q ++ [tbs T])) (.ptr (h.length + q.length)) = some (tbs T) := fun k => by
    rw [items_ptr, List.getElem?_append_right (by simp)]
    simp
  obtain ⟨σ', h', e, v9, e1, e2⟩ := loopF_inv (s := .sq (.ptr (h.length + q.length))) (f := forT P (m + 60) (.gv 9) c33)
    (fun i σ hh => ∃ v9, σ = [.ptr a, .int p, u2, u3, u4, u5, u6, u7, tr (inF p (T.take i) (v, k)).1, v9] ∧ hh = h.set a (kl (inF p (T.take i) (v, k)).2) ++ (q ++ [tbs T])) T.length
    (fun i σ hh hi ⟨v9, e1, e2⟩ => by
      subst e1 e2
      have rr := hT _ (List.getElem_mem hi)
      have rv : Rw p w (inF p (T.take i) (v, k)).1 := inF_rw hp0 (rws_take hT i) hv
      have st : inF p (T.take (i + 1)) (v, k) = (ad p (inF p (T.take i) (v, k)).1 T[i] (lad (inF p (T.take i) (v, k)).2 p).1, (lad (inF p (T.take i) (v, k)).2 p).2) := foldl_take _ (v, k) hi
      rw [st]
      generalize inF p (T.take i) (v, k) = x at *
      have l1 := fun m (q : Hh) => r_ladS m x.2 (t := p) hp0 (by omega) ha q
      have rg := lad_rng hp0 x.2
      have pl := fun m hh => r_plus m p (lad x.2 p).1 hp0 (by omega) x.1 T[i] hh (rv.len.trans rr.len.symm) (by rw [rv.len]; omega)
      refine ⟨tr T[i], [.ptr a, .int p, u2, u3, u4, u5, u6, u7, tr (ad p x.1 T[i] (lad x.2 p).1), tr T[i]], _, ?_, .inl ?_, tr T[i], rfl, rfl⟩
      · rw [Ev.Rx.src_sq (gt _), tbs_get, List.getElem?_eq_getElem hi]
        rfl
      · simp -implicitDefEqProofs [c33, l1, pl])
    (fun σ hh ⟨v9, e1, e2⟩ => by
      subst e2
      rw [Ev.Rx.src_sq (gt _), tbs_get, List.getElem?_eq_none (Nat.le_refl _)]
      rfl) turns 0 _ _ (by unfold turns; omega) (Nat.zero_le _) ⟨u9, rfl, rfl⟩
  rw [List.take_of_length_le (Nat.le_refl _)] at e1 e2
  exact ⟨v9, e.trans (by rw [e1, e2])⟩
/-- one row's turn -/
def tnF (p : Int) (w : Nat) (T : List Row) (r : Row) (y : List Row × K3) : List Row × K3 :=
  let x := inF p T (ad p (zr w) r (1 + (lad y.2 (p - 1)).1), (lad y.2 (p - 1)).2)
  (if (lad x.2 2).1 = 0 then x.1 :: y.1 else y.1 ++ [x.1], (lad x.2 2).2)
def w33 : I := .sCons (.sAsg (.gv 7) (.bin .add (.cst (.int 1)) (.cal 24 (.acons (.var 0) (.acons (.bin .sub (.var 1) (.cst (.int 1))) .anil))))) (.sCons (.sAsg (.gv 8) (.cal 27 (.acons (.var 1) (.acons (.bin .mul (.tup (.acons (.cst (.int 0)) .anil)) (.var 2)) (.acons (.var 6) (.acons (.var 7) .anil)))))) (.sCons (.sFor (.gv 9) (.iS (.sl (.var 3) .pno (.po (.var 5)))) c33) (.sCons (.sAsg (.gv 4) (.ife (.cmp .eq (.cal 24 (.acons (.var 0) (.acons (.cst (.int 2)) .anil))) (.cst (.int 0))) (.bin .add (.lst (.acons (.var 8) .anil)) (.var 4)) (.bin .add (.var 4) (.lst (.acons (.var 8) .anil))))) .sNil)))
theorem b33_eq : b33 = .sCons (.sAsg (.gv 4) (.lst .anil)) (.sCons (.sFor (.gt (.gcons (.gv 5) (.gcons (.gv 6) .gnil))) (.iE (.var 3)) w33) (.sCons (.sRet (.bin .add (.var 4) (.sl (.var 4) .pno (.po (.cst (.int 1)))))) .sNil)) := rfl
theorem st33 (m : Nat) {p : Int} (hp : Pr p) {w : Nat} (hw : w ≤ 100) {S : List Row} (hS : Rws p w S) (sl : S.length ≤ 100) {i : Nat} (hi : i < S.length) {a b : Nat} {h : Hh} (ha : a < h.length) (hb : b < h.length) (ab : a ≠ b) (eb : h[b]? = some (tbs S)) (q : Hh) (j : Nat) {F : List Row} (fl : F.length ≤ 1000) (ej : q[j]? = some (tbs F)) (u7 u8 u9 : D) (k : K3) :
    ∃ v : D × D × D × Hh × Nat, ev P (m + 100) w33 [.ptr a, .int p, .int (w : Int), .ptr b, .ptr (h.length + j), .int (i : Int), tr S[i], u7, u8, u9] (h.set a (kl k) ++ q) = .nx [.ptr a, .int p, .int (w : Int), .ptr b, .ptr (h.length + v.2.2.2.2), .int (i : Int), tr S[i], v.1, v.2.1, v.2.2.1] (h.set a (kl (tnF p w (S.take i) S[i] (F, k)).2) ++ v.2.2.2.1) ∧ v.2.2.2.1[v.2.2.2.2]? = some (tbs (tnF p w (S.take i) S[i] (F, k)).1) := by
  have hp0 : 0 < p := by have := hp.pos; omega
  have pp := hp.pos
  have rr := hS _ (List.getElem_mem hi)
  have l1 := fun m (q : Hh) => r_ladS m k (t := p - 1) (by omega) (by omega) ha q
  have rg := lad_rng (t := p - 1) (by omega) k
  unfold tnF
  dsimp only
  generalize lad k (p - 1) = l at *
  have pl := fun m hh => r_plus m p (1 + l.1) hp0 (by omega) (zr w) S[i] hh (by rw [rr.len]; exact List.length_replicate) (by show (List.replicate w (0 : Int)).length < _; rw [List.length_replicate]; omega)
  have tk : ∀ hh : Hh, tupK [.int 0] hh = .ok (.tup [.int 0]) hh := fun _ => rfl
  have rp : ∀ hh : Hh, binop .mul (.tup [.int 0]) (.int (w : Int)) hh = .ok (tr (zr w)) hh := fun hh => rep1T 0 (by omega) hh
  have rv : Rw p w (ad p (zr w) S[i] (1 + l.1)) := (Rw.zr hp0 w).ad hp0 rr.len _
  obtain ⟨v9, lp⟩ := pick1 (fun m => in33 m hp hw (rws_take hS i) (by rw [List.length_take]; omega) ha q (.int (w : Int)) (.ptr b) (.ptr (h.length + j)) (.int (i : Int)) (tr S[i]) (.int (1 + l.1)) u9 l.2 rv)
  generalize ad p (zr w) S[i] (1 + l.1) = v0 at *
  generalize hx : inF p (S.take i) (v0, l.2) = x at *
  have ebk : ∀ (k : K3) (q : Hh), (h.set a (kl k) ++ q)[b]? = some (tbs S) := fun k q => ap_get (by rw [List.getElem?_set_ne ab, eb]) q
  have slc : slice (.ptr b) .non (.int (i : Int)) (h.set a (kl l.2) ++ q) = .ok (.ptr (h.length + q.length)) (h.set a (kl l.2) ++ (q ++ [tbs (S.take i)])) := by
    rw [slice_toL (ebk _ _) (by rw [tbs_len]; omega), tbs_take, newL1]
    simp
  have gt : ∀ k : K3, itemsOf (h.set a (kl k) ++ (q ++ [tbs (S.take i)])) (.ptr (h.length + q.length)) = some (tbs (S.take i)) := fun k => by
    rw [items_ptr, List.getElem?_append_right (by simp)]
    simp
  have l3 := fun m (q : Hh) => r_ladS m x.2 (t := 2) (by omega) (by omega) ha q
  generalize lad x.2 2 = z at *
  have jl := (List.getElem?_eq_some_iff.mp ej).1
  have gf : ∀ (q' : Hh), (h.set a (kl z.2) ++ (q ++ q'))[h.length + j]? = some (tbs F) := fun q' => by
    rw [List.getElem?_append_right (by simp)]
    simp only [List.length_set, Nat.add_sub_cancel_left]
    rw [List.getElem?_append_left jl, ej]
  have gn : (h.set a (kl z.2) ++ (q ++ [tbs (S.take i), [tr x.1]]))[h.length + (q.length + 1)]? = some (tbs [x.1]) := by
    rw [List.getElem?_append_right (by simp)]
    simp [tbs]
  have ln : lstK [tr x.1] (h.set a (kl z.2) ++ (q ++ [tbs (S.take i)])) = .ok (.ptr (h.length + (q.length + 1))) (h.set a (kl z.2) ++ (q ++ [tbs (S.take i), [tr x.1]])) := by
    have : lstK [tr x.1] (h.set a (kl z.2) ++ (q ++ [tbs (S.take i)])) = newL (h.set a (kl z.2) ++ (q ++ [tbs (S.take i)])) [tr x.1] := rfl
    rw [this, newL1]
    simp
  have fst := gf [tbs (S.take i), [tr x.1]]
  have a1 : binop .add (.ptr (h.length + (q.length + 1))) (.ptr (h.length + j)) (h.set a (kl z.2) ++ (q ++ [tbs (S.take i), [tr x.1]])) = .ok (.ptr (h.length + (q.length + 2))) (h.set a (kl z.2) ++ (q ++ [tbs (S.take i), [tr x.1], tbs (x.1 :: F)])) := by
    rw [bin_addL gn fst (by simp; omega), tbs_app, newL1]
    simp
  have a2 : binop .add (.ptr (h.length + j)) (.ptr (h.length + (q.length + 1))) (h.set a (kl z.2) ++ (q ++ [tbs (S.take i), [tr x.1]])) = .ok (.ptr (h.length + (q.length + 2))) (h.set a (kl z.2) ++ (q ++ [tbs (S.take i), [tr x.1], tbs (F ++ [x.1])])) := by
    rw [bin_addL fst gn (by simp; omega), tbs_app, newL1]
    simp
  by_cases c : z.1 = 0
  · rw [if_pos c]
    refine ⟨(.int (1 + l.1), tr x.1, v9 (m + 36), q ++ [tbs (S.take i), [tr x.1], tbs (x.1 :: F)], q.length + 2), ?_, by simp⟩
    simp -implicitDefEqProofs [w33, l1, tk, rp, pl, slc, sqK_of (gt _), lp, l3, pyEq_int, c, ln, a1]
  · rw [if_neg c]
    refine ⟨(.int (1 + l.1), tr x.1, v9 (m + 36), q ++ [tbs (S.take i), [tr x.1], tbs (F ++ [x.1])], q.length + 2), ?_, by simp⟩
    simp -implicitDefEqProofs [w33, l1, tk, rp, pl, slc, sqK_of (gt _), lp, l3, pyEq_int, c, ln, a2]
end K0
-- K0x
namespace K0
open PySem Ev Ev.Rx Li
def mxF (p : Int) (w : Nat) (S : List Row) (k : K3) : Nat → List Row × K3
  | 0 => ([], k)
  | i + 1 => tnF p w (S.take i) (S.getD i []) (mxF p w S k i)
theorem mx_ok {p : Int} (hp : Pr p) {w : Nat} {S : List Row} (hS : Rws p w S) (k : K3) : ∀ i, i ≤ S.length → Rws p w (mxF p w S k i).1 ∧ (mxF p w S k i).1.length = i ∧ ∀ x, Sp p w (mxF p w S k i).1 x ↔ Sp p w (S.take i) x
  | 0, _ => ⟨fun _ h => (by cases h), rfl, fun x => Iff.rfl⟩
  | i + 1, hi => by
    have hp0 : 0 < p := by have := hp.pos; omega
    have pp := hp.pos
    have hi' : i < S.length := hi
    obtain ⟨r, hr⟩ : ∃ r, S[i]? = some r := ⟨S[i]'hi', List.getElem?_eq_getElem hi'⟩
    have rr : Rw p w r := hS _ (List.mem_of_getElem? hr)
    have eg : S.getD i [] = r := by rw [List.getD_eq_getElem?_getD, hr]; rfl
    have et : S.take (i + 1) = S.take i ++ [r] := by rw [List.take_add_one, hr]; rfl
    obtain ⟨h1, h2, h3⟩ := mx_ok hp hS k i (Nat.le_of_lt hi')
    have em : mxF p w S k (i + 1) = tnF p w (S.take i) r (mxF p w S k i) := by
      show tnF p w (S.take i) (S.getD i []) (mxF p w S k i) = _
      rw [eg]
    rw [em]
    unfold tnF
    dsimp only
    have rg := lad_rng (t := p - 1) (by omega) (mxF p w S k i).2
    generalize lad (mxF p w S k i).2 (p - 1) = l at *
    have rv : Rw p w (ad p (zr w) r (1 + l.1)) := (Rw.zr hp0 w).ad hp0 rr.len _
    have rx := inF_rw hp0 (rws_take hS i) (x := (ad p (zr w) r (1 + l.1), l.2)) rv
    obtain ⟨u', hu', ex⟩ := inF_sp hp0 (rws_take hS i) (fun o h => h) (x := (ad p (zr w) r (1 + l.1), l.2)) (u := zr w) (r := r) (c := 1 + l.1) .zero rr.len rfl
    generalize inF p (S.take i) (ad p (zr w) r (1 + l.1), l.2) = x at *
    generalize (mxF p w S k i).1 = F at *
    have tri := fun y => sp_tri (x := y) pp.1 (inv_iv hp) (rws_take hS i) rr h1 (show (0 : Int) < 1 + l.1 by omega) (show 1 + l.1 < p by omega) hu' ex h3
    rw [et]
    by_cases c : (lad x.2 2).1 = 0
    · simp only [c, if_true]
      refine ⟨fun s hs => ?_, by simp [h2], tri⟩
      rcases List.mem_cons.mp hs with e | e
      · rw [e]; exact rx
      · exact h1 s e
    · simp only [c, if_false]
      refine ⟨fun s hs => ?_, by simp [h2], fun y => (Sp.congr fun s => by simp only [List.mem_append, List.mem_cons, List.not_mem_nil, or_false]; exact Or.comm).trans (tri y)⟩
      rcases List.mem_append.mp hs with e | e
      · exact h1 s e
      · rw [List.mem_singleton.mp e]; exact rx
theorem slice_toA {a : Nat} {ds : List D} {h : Hh} (e : h[a]? = some ds) (k : Nat) : slice (.ptr a) .non (.int (k : Int)) h = newL h (ds.take k) := by
  show (match h[a]? with | some ds => newL h (cut ds none (some (k : Int))) | none => .no) = _
  rw [e]
  show newL h ((ds.drop 0).take (min k ds.length - 0)) = _
  rw [List.drop_zero, Nat.sub_zero]
  congr 1
  rw [List.take_eq_take_iff]
  omega
theorem r_mixed (n : Nat) {p : Int} (hp : Pr p) {w : Nat} (hw : w ≤ 100) {S : List Row} (hS : Rws p w S) (sl : S.length ≤ 100) {a b : Nat} {h : Hh} (hb : b < h.length) (ab : a ≠ b) (eb : h[b]? = some (tbs S)) (k : K3) (ek : h[a]? = some (kl k)) :
    callF P (n + 120) 33 [.ptr a, .int p, .int (w : Int), .ptr b] h = .ok (.ptr h.length) (h.set a (kl (mxF p w S k S.length).2) ++ [tbs ((mxF p w S k S.length).1 ++ (mxF p w S k S.length).1.take 1)]) := by
  have ha := (List.getElem?_eq_some_iff.mp ek).1
  have eh : callF P (n + 120) 33 [.ptr a, .int p, .int (w : Int), .ptr b] h = callF P (n + 120) 33 [.ptr a, .int p, .int (w : Int), .ptr b] (h.set a (kl k)) := by rw [set_id ek]
  rw [eh, callF_at P fs33 rfl, b33_eq]
  have ebk : ∀ (k : K3) (q : Hh), (h.set a (kl k) ++ q)[b]? = some (tbs S) := fun k q => ap_get (by rw [List.getElem?_set_ne ab, eb]) q
  have lp : ∀ m, ∃ v : D × D × D × D × D × Hh × Nat, loopF (.en (.ptr b)) (forT P (m + 100) (.gt (.gcons (.gv 5) (.gcons (.gv 6) .gnil))) w33) turns 0 [.ptr a, .int p, .int (w : Int), .ptr b, .ptr h.length, .una, .una, .una, .una, .una] (h.set a (kl k) ++ [tbs []]) = .nx [.ptr a, .int p, .int (w : Int), .ptr b, .ptr (h.length + v.2.2.2.2.2.2), v.1, v.2.1, v.2.2.1, v.2.2.2.1, v.2.2.2.2.1] (h.set a (kl (mxF p w S k S.length).2) ++ v.2.2.2.2.2.1) ∧ v.2.2.2.2.2.1[v.2.2.2.2.2.2]? = some (tbs (mxF p w S k S.length).1) := fun m => by
    obtain ⟨σ', h', e, u5, u6, u7, u8, u9, q, j, e1, e2, e3⟩ := loopF_inv (s := .en (.ptr b)) (f := forT P (m + 100) (.gt (.gcons (.gv 5) (.gcons (.gv 6) .gnil))) w33)
      (fun i σ hh => ∃ u5 u6 u7 u8 u9 q j, σ = [.ptr a, .int p, .int (w : Int), .ptr b, .ptr (h.length + j), u5, u6, u7, u8, u9] ∧ hh = h.set a (kl (mxF p w S k i).2) ++ q ∧ q[j]? = some (tbs (mxF p w S k i).1)) S.length
      (fun i σ hh hi ⟨u5, u6, u7, u8, u9, q, j, e1, e2, e3⟩ => by
        subst e1 e2
        obtain ⟨h1, h2, _⟩ := mx_ok hp hS k i (by omega)
        obtain ⟨v, r1, r2⟩ := st33 m hp hw hS sl hi ha hb ab eb q j (by omega) e3 u7 u8 u9 (mxF p w S k i).2
        have eg : S.getD i [] = S[i] := by rw [List.getD_eq_getElem?_getD, List.getElem?_eq_getElem hi]; rfl
        have em : mxF p w S k (i + 1) = tnF p w (S.take i) S[i] (mxF p w S k i) := by
          show tnF p w (S.take i) (S.getD i []) (mxF p w S k i) = _
          rw [eg]
        have ep : (mxF p w S k i) = ((mxF p w S k i).1, (mxF p w S k i).2) := rfl
        rw [← ep, ← em] at r1 r2
        refine ⟨.tup [.int (i : Int), tr S[i]], _, _, ?_, .inl ?_, .int (i : Int), tr S[i], v.1, v.2.1, v.2.2.1, v.2.2.2.1, v.2.2.2.2, rfl, rfl, r2⟩
        · rw [src_enG (x := .ptr b) (ebk _ q) i (by rw [tbs_len]; omega), List.getElem?_map, List.getElem?_zipIdx, tbs_get, List.getElem?_eq_getElem hi]
          simp [mkT]
        · rw [forT_eq]
          simp -implicitDefEqProofs [r1])
      (fun σ hh ⟨u5, u6, u7, u8, u9, q, j, e1, e2, e3⟩ => by
        subst e2
        rw [src_enG (x := .ptr b) (ebk _ q) S.length (by rw [tbs_len]; omega), List.getElem?_eq_none (by simp)]) turns 0 _ _ (by unfold turns; omega) (Nat.zero_le _) ⟨.una, .una, .una, .una, .una, [tbs []], 0, rfl, rfl, rfl⟩
    exact ⟨(u5, u6, u7, u8, u9, q, j), e.trans (by rw [e1, e2]), e3⟩
  obtain ⟨v, lp⟩ := pick1 lp
  have l1 := fun m => (lp m).1
  have ml := (mx_ok hp hS k S.length (Nat.le_refl _)).2.1
  generalize mxF p w S k S.length = M at *
  have gm : ∀ m q', (h.set a (kl M.2) ++ ((v m).2.2.2.2.2.1 ++ q'))[h.length + (v m).2.2.2.2.2.2]? = some (tbs M.1) := fun m q' => by
    have jl := (List.getElem?_eq_some_iff.mp (lp m).2).1
    rw [List.getElem?_append_right (by simp)]
    simp only [List.length_set, Nat.add_sub_cancel_left]
    rw [List.getElem?_append_left jl, (lp m).2]
  have sc : ∀ m, slice (.ptr (h.length + (v m).2.2.2.2.2.2)) .non (.int 1) (h.set a (kl M.2) ++ (v m).2.2.2.2.2.1) = .ok (.ptr (h.length + (v m).2.2.2.2.2.1.length)) (h.set a (kl M.2) ++ ((v m).2.2.2.2.2.1 ++ [tbs (M.1.take 1)])) := fun m => by
    have := slice_toA (gm m []) 1
    rw [List.append_nil] at this
    refine this.trans ?_
    rw [tbs_take, newL1]
    simp
  have ad1 : ∀ m, binop .add (.ptr (h.length + (v m).2.2.2.2.2.2)) (.ptr (h.length + (v m).2.2.2.2.2.1.length)) (h.set a (kl M.2) ++ ((v m).2.2.2.2.2.1 ++ [tbs (M.1.take 1)])) = .ok (.ptr (h.length + ((v m).2.2.2.2.2.1.length + 1))) (h.set a (kl M.2) ++ ((v m).2.2.2.2.2.1 ++ [tbs (M.1.take 1), tbs (M.1 ++ M.1.take 1)])) := fun m => by
    rw [bin_addL (es := tbs (M.1.take 1)) (gm m _) (by rw [List.getElem?_append_right (by simp)]; simp) (by simp; omega), tbs_app, newL1]
    simp
  have bk : ∀ m, back h.length (.ptr (h.length + ((v m).2.2.2.2.2.1.length + 1))) (h.set a (kl M.2) ++ ((v m).2.2.2.2.2.1 ++ [tbs (M.1.take 1), tbs (M.1 ++ M.1.take 1)])) = .ok (.ptr h.length) (h.set a (kl M.2) ++ [tbs (M.1 ++ M.1.take 1)]) := fun m =>
    back_at h.length (by omega) (by rw [List.getElem?_append_right (by simp)]; simp) (tbs_any _) (List.take_left' (by simp))
  have ll : ∀ hh : Hh, lstK [] hh = newL hh (tbs []) := fun _ => rfl
  have en := enK_of (x := .ptr b) (ebk k [tbs []])
  generalize hsl : tbs (M.1.take 1) = Y at *
  simp -implicitDefEqProofs [ll, newL0, en, l1, sc, ad1, bk]
end K0
-- K0y
namespace K0
open PySem Ev Ev.Rx Li
def n1 : I := (.sAsg (.gv 4) (.lst (.acons (.var 3) (.acons (.frz (.blt .list (.acons (.var 3) .anil))) (.acons (.stp (.var 3) (.neg (.cst (.int 1)))) (.acons (.bin .add (.var 3) (.tup (.acons (.bin .mul (.tup (.acons (.cst (.int 0)) .anil)) (.var 2)) .anil))) (.acons (.cst .non) (.acons (.cst (.int 0)) (.acons (.cst (.str "base")) (.acons .dct (.acons (.bin .mul (.tup (.acons (.cst (.int 0)) .anil)) (.var 2)) .anil)))))))))))
def n2 : I := (.sAsg (.gv 4) (.bin .add (.var 4) (.lst (.acons (.tup (.acons (.bin .mul (.tup (.acons (.cst (.int 0)) .anil)) (.var 2)) .anil)) (.acons (.tup (.acons (.bin .mul (.tup (.acons (.cst (.int 1)) .anil)) (.bin .add (.var 2) (.cst (.int 1)))) .anil)) (.acons (.sl (.var 3) (.po (.cst (.int 1))) .pno) (.acons (.tup (.acons (.cst .non) .anil)) .anil)))))))
def n3 : I := (.sIf (.cmp .ne (.var 3) (.tup .anil)) (.sCons (.sPar2 6 7 (.cal 24 (.acons (.var 0) (.acons (.blt .len (.acons (.var 3) .anil)) .anil))) (.cal 24 (.acons (.var 0) (.acons (.var 2) .anil)))) (.sCons (.sAsg (.gv 5) (.blt .list (.acons (.ix (.var 3) (.var 6)) .anil))) (.sCons (.sAsg (.gx (.var 5) (.var 7)) (.cal 25 (.acons (.var 0) (.acons (.lst (.acons (.cst (.int 0)) (.acons (.cst (.int 1)) (.acons (.bin .sub (.var 1) (.cst (.int 1))) (.acons (.var 1) (.acons (.neg (.cst (.int 1))) (.acons (.cst (.bl true)) (.acons (.cst (.str "1")) (.acons (.cst .non) .anil))))))))) .anil)))) (.sCons (.sExp (.app (.var 4) (.bin .add (.bin .add (.sl (.var 3) .pno (.po (.var 6))) (.tup (.acons (.blt .tuple (.acons (.var 5) .anil)) .anil))) (.sl (.var 3) (.po (.bin .add (.var 6) (.cst (.int 1)))) .pno)))) (.sCons (.sExp (.app (.var 4) (.bin .add (.bin .add (.sl (.var 3) .pno (.po (.var 6))) (.tup (.acons (.frz (.blt .list (.acons (.ix (.var 3) (.var 6)) .anil))) .anil))) (.sl (.var 3) (.po (.bin .add (.var 6) (.cst (.int 1)))) .pno)))) (.sCons (.sExp (.app (.var 4) (.bin .add (.bin .add (.sl (.var 3) .pno (.po (.var 6))) (.tup (.acons (.sl (.ix (.var 3) (.var 6)) .pno (.po (.neg (.cst (.int 1))))) .anil))) (.sl (.var 3) (.po (.bin .add (.var 6) (.cst (.int 1)))) .pno)))) .sNil)))))) .sNil)
def n4 : I := (.sRet (.var 4))
theorem b34_eq2 : b34 = (.sCons n1 (.sCons n2 (.sCons n3 (.sCons n4 .sNil)))) := rfl
def Nr (d : D) : Prop := Near d ∧ isUna d = false ∧ isPtr d = false ∧ ∀ ds, d = .tup ds → ds.length ≤ 200
theorem nr_flat {d : D} (k : known d = true) (p : isPtr d = false) (nt : ∀ ds, d ≠ .tup ds) (nm : ∀ ds, d ≠ .mtp ds) : Nr d := ⟨⟨k, nm, fun ds e => absurd e (nt ds)⟩, known_una k, p, fun ds e => absurd e (nt ds)⟩
theorem n1_flat {d : D} (k : known d = true) (nt : ∀ ds, d ≠ .tup ds) (nm : ∀ ds, d ≠ .mtp ds) : Near1 d := ⟨k, nm, fun ds e => absurd e (nt ds)⟩
theorem n1_tr {r : Row} (h : r.length ≤ 1000) : Near1 (tr r) := ⟨rfl, (fun _ e => by cases e), fun ds e => by
  cases e
  refine ⟨fun d hd => ?_, by rw [intL_len]; exact h⟩
  obtain ⟨x, _, rfl⟩ := List.mem_map.mp hd
  rfl⟩
theorem nr_tup {ds : List D} (h : ∀ d ∈ ds, Near1 d) (l : ds.length ≤ 200) : Nr (.tup ds) := ⟨⟨rfl, (fun _ e => by cases e), fun es e => by cases e; exact ⟨h, by omega⟩⟩, rfl, rfl, fun es e => by cases e; exact l⟩
theorem nr_tb {p : Int} {w : Nat} {S : List Row} (h : ∀ r ∈ S, r.length ≤ 1000) (l : S.length ≤ 200) : Nr (tb S) := nr_tup (fun d hd => by
  obtain ⟨r, hr, rfl⟩ := List.mem_map.mp hd
  exact n1_tr (h r hr)) (by rw [tbs_len]; exact l)
theorem g_pick (n : Nat) (k : K3) {ds : List D} (dl : 0 < ds.length) (dl2 : ds.length ≤ 1000) (hb : ∀ d ∈ ds, ∀ n h, back n d h = .ok d (h.take n)) {a b : Nat} {h : Hh} (ab : a ≠ b) (e : h[a]? = some (kl k)) (eb : h[b]? = some ds) :
    ∃ d ∈ ds, ∀ n, callF P (n + 60) 25 [.ptr a, .ptr b] h = .ok d (h.set a (kl (lad k ds.length).2)) := by
  have l1 := fun m => r_ladle m k (t := (ds.length : Int)) (by omega) (by omega) a h e
  have ll : builtin .len [.ptr b] h = .ok (.int (ds.length : Int)) h := by rw [bi_len (x := .ptr b) eb]
  have rg := lad_rng (t := (ds.length : Int)) (by omega) k
  generalize lad k (ds.length : Int) = v at *
  obtain ⟨c, hc⟩ : ∃ c : Nat, v.1 = (c : Int) := ⟨v.1.toNat, by omega⟩
  rw [hc] at l1 rg
  have cl : c < ds.length := by omega
  have eb1 : (h.set a (kl v.2))[b]? = some ds := by rw [List.getElem?_set_ne ab, eb]
  have ix : index (.ptr b) (.int (c : Int)) (h.set a (kl v.2)) = .ok ds[c] (h.set a (kl v.2)) := index_at (x := .ptr b) eb1 (ixN_nat cl) (List.getElem?_eq_getElem cl)
  have bk := hb ds[c] (List.getElem_mem cl)
  refine ⟨ds[c], List.getElem_mem cl, fun n => ?_⟩
  rw [callF_at P fs25 rfl]
  simp -implicitDefEqProofs [b25, ll, l1, ix, bk, take_set]
end K0
-- K0z
namespace K0
open PySem Ev Ev.Rx Li
theorem frz_at0 {h : Hh} {ds : List D} (np : ds.any isPtr = false) : frzAt h.length (.ptr h.length) (h ++ [ds]) = .ok (.frl ds) h := by
  have e : (Nat.ble h.length h.length && Nat.beq (h.length + 1) (h ++ [ds]).length) = true := by
    rw [Bool.and_eq_true]
    exact ⟨Nat.ble_eq.mpr (Nat.le_refl _), by rw [List.length_append]; exact Nat.beq_refl _⟩
  unfold frzAt
  dsimp only
  rw [e, h_get0]
  dsimp only
  simp only [List.getElem?_cons_zero]
  rw [np, h_take]
theorem step_rev (B : List Row) (h : Hh) : stepAt (tb B) (.int (-1)) h = .ok (tb B.reverse) h := by
  show R.ok (.tup (tbs B).reverse) h = _
  unfold tb tbs
  rw [List.map_reverse]
theorem add_tb (X Y : List Row) (hl : X.length + Y.length ≤ 1000000) (h : Hh) : binop .add (tb X) (tb Y) h = .ok (tb (X ++ Y)) h := by
  have := bin_addT (ds := tbs X) (es := tbs Y) (by simpa using hl) h
  rw [tbs_app] at this
  exact this
theorem tT1 (a : Row) (h : Hh) : tupK [tr a] h = .ok (tb [a]) h := rfl
def V1 (w : Nat) (B : List Row) : List D := [tb B, .frl (tbs B), tb B.reverse, tb (B ++ [zr w]), .non, .int 0, .str "base", .emp, tr (zr w)]
def V2 (w : Nat) (B : List Row) : List D := [tb [zr w], tb [List.replicate (w + 1) 1], tb (B.drop 1), .tup [.non]]
theorem m1 (m : Nat) {w : Nat} (hw : w ≤ 100) {B : List Row} (bl : B.length ≤ 100) (u0 u1 u4 u5 u6 u7 : D) (H : Hh) :
    ev P (m + 60) n1 [u0, u1, .int (w : Int), tb B, u4, u5, u6, u7] H = .nx [u0, u1, .int (w : Int), tb B, .ptr H.length, u5, u6, u7] (H ++ [V1 w B]) := by
  have tk : tupK [.int 0] H = .ok (.tup [.int 0]) H := rfl
  have rp : binop .mul (.tup [.int 0]) (.int (w : Int)) H = .ok (tr (zr w)) H := rep1T 0 (by omega) H
  have fz := frz_at0 (h := H) (tbs_any B)
  have li : builtin .list [tb B] H = .ok (.ptr H.length) (H ++ [tbs B]) := rfl
  have at1 := add_tb B [zr w] (by simp; omega) H
  have lk : lstK [tb B, .frl (tbs B), tb B.reverse, tb (B ++ [zr w]), .non, .int 0, .str "base", .emp, tr (zr w)] H = .ok (.ptr H.length) (H ++ [V1 w B]) := rfl
  simp -implicitDefEqProofs [n1, li, fz, step_rev, tk, rp, tT1, at1, lk]
theorem m2 (m : Nat) {w : Nat} (hw : w ≤ 100) {B : List Row} (bl : B.length ≤ 100) (u0 u1 u5 u6 u7 : D) (H : Hh) :
    ev P (m + 60) n2 [u0, u1, .int (w : Int), tb B, .ptr H.length, u5, u6, u7] (H ++ [V1 w B]) = .nx [u0, u1, .int (w : Int), tb B, .ptr (H.length + 2), u5, u6, u7] (H ++ [V1 w B, V2 w B, V1 w B ++ V2 w B]) := by
  have tk : ∀ (c : Int) (H : Hh), tupK [.int c] H = .ok (.tup [.int c]) H := fun _ _ => rfl
  have rp : ∀ H : Hh, binop .mul (.tup [.int 0]) (.int (w : Int)) H = .ok (tr (zr w)) H := fun H => rep1T 0 (by omega) H
  have rp1 : ∀ H : Hh, binop .mul (.tup [.int 1]) (.int ((w : Int) + 1)) H = .ok (tr (List.replicate (w + 1) 1)) H := fun H => rep1T (n := w + 1) 1 (by omega) H
  have sl : ∀ H : Hh, slice (tb B) (.int 1) .non H = .ok (tb (B.drop 1)) H := fun H => by
    show R.ok (.tup (cut (tbs B) (some ((1 : Nat) : Int)) none)) H = _
    rw [cut_fromA, tbs_drop]
    rfl
  have tn : ∀ H : Hh, tupK [.non] H = .ok (.tup [.non]) H := fun _ => rfl
  have lk : lstK [tb [zr w], tb [List.replicate (w + 1) 1], tb (B.drop 1), .tup [.non]] (H ++ [V1 w B]) = .ok (.ptr (H.length + 1)) (H ++ [V1 w B, V2 w B]) := by
    have : lstK [tb [zr w], tb [List.replicate (w + 1) 1], tb (B.drop 1), .tup [.non]] (H ++ [V1 w B]) = newL (H ++ [V1 w B]) (V2 w B) := rfl
    rw [this, newL1]
    rfl
  have ad1 : binop .add (.ptr H.length) (.ptr (H.length + 1)) (H ++ [V1 w B, V2 w B]) = .ok (.ptr (H.length + 2)) (H ++ [V1 w B, V2 w B, V1 w B ++ V2 w B]) := by
    rw [bin_addL (ds := V1 w B) (es := V2 w B) (by rw [h_get0]; rfl) (by rw [h_get]; rfl) (by simp [V1, V2]), newL1]
    rfl
  generalize List.replicate (w + 1) (1 : Int) = on at *
  generalize hd : B.drop 1 = Bd at *
  generalize V1 w B = Y1 at *
  generalize V2 w B = Y2 at *
  simp -implicitDefEqProofs [n2, tk, rp, rp1, tT1, sl, tn, lk, ad1]
end K0
-- K0A
namespace K0
open PySem Ev Ev.Rx Li
theorem tb_nil : D.tup [] = tb [] := rfl
theorem set_app {h : Hh} {a : Nat} (ha : a < h.length) (d : List D) (q : Hh) : (h ++ q).set a d = h.set a d ++ q := List.set_append_left _ _ ha
theorem setD {a : Nat} {ds : List D} {d : D} {h : Hh} (e : h[a]? = some ds) {j : Nat} (hj : j < ds.length) (np : isPtr d = false) (σ : Sg) : augXK (.ptr a) (.int (j : Int)) σ d h = .nx σ (h.set a (ds.set j d)) := by
  have e2 : setAt (.ptr a) (.int (j : Int)) d h = some (h.set a (ds.set j d)) := by
    show (match h[a]? with
      | some ds => (match ixN ds.length (j : Int) with
        | some j => (match isPtr d with
          | true => none
          | false => some (h.set a (ds.set j d)))
        | none => none)
      | none => none) = _
    rw [e]
    dsimp only
    rw [ixN_nat hj]
    dsimp only
    rw [np]
  unfold augXK
  rw [e2]
theorem tupK1 {x : D} (np : isPtr x = false) (h : Hh) : tupK [x] h = .ok (.tup [x]) h := by
  rw [tupK_of (by simp)]
  unfold mkT
  have : ([x].any isPtr) = false := by simp [np]
  rw [this]
def L8 (p : Int) : List D := [.int 0, .int 1, .int (p - 1), .int p, .int (-1), .bl true, .str "1", .non]
theorem L8_ok {p : Int} : ∀ d ∈ L8 p, known d = true ∧ isPtr d = false ∧ ∀ n h, back n d h = .ok d (h.take n) := fun d hd => by
  unfold L8 at hd
  simp only [List.mem_cons, List.not_mem_nil, or_false] at hd
  rcases hd with rfl | rfl | rfl | rfl | rfl | rfl | rfl | rfl <;> exact ⟨rfl, rfl, fun n h => rfl⟩
def WW (B : List Row) (i : Nat) (x : D) : D := .tup (tbs (B.take i) ++ [x] ++ tbs (B.drop (i + 1)))
theorem WW_nr {B : List Row} {i : Nat} {x : D} (hB : ∀ r ∈ B, r.length ≤ 1000) (bl : B.length ≤ 100) (hx : Near1 x) : Nr (WW B i x) := nr_tup (fun d hd => by
  rcases List.mem_append.mp hd with e | e
  · rcases List.mem_append.mp e with e | e
    · obtain ⟨r, hr, rfl⟩ := List.mem_map.mp e
      exact n1_tr (hB r (List.mem_of_mem_take hr))
    · rw [List.mem_singleton.mp e]; exact hx
  · obtain ⟨r, hr, rfl⟩ := List.mem_map.mp e
    exact n1_tr (hB r (List.mem_of_mem_drop hr))) (by simp; omega)
theorem m3 {p : Int} (hp : Pr p) {w : Nat} (w0 : 0 < w) (hw : w ≤ 100) {B : List Row} (hB : Rws p w B) (bl : B.length ≤ 100) {a : Nat} {h : Hh} (ha : a < h.length) (Y1 Y2 Y : List D) (yl : Y.length ≤ 1000) (k : K3) :
    ∃ ds k' q u5 u6 u7, (∀ m, ev P (m + 100) n3 [.ptr a, .int p, .int (w : Int), tb B, .ptr (h.length + 2), .una, .una, .una] (h.set a (kl k) ++ [Y1, Y2, Y]) = .nx [.ptr a, .int p, .int (w : Int), tb B, .ptr (h.length + 2), u5, u6, u7] (h.set a (kl k') ++ (Y1 :: Y2 :: ds :: q))) ∧ (∀ d ∈ ds, d ∈ Y ∨ Nr d) ∧ ds.length ≤ Y.length + 3 := by
  have pp := hp.pos
  by_cases c : B = []
  · subst c
    refine ⟨Y, k, [], .una, .una, .una, fun m => ?_, fun d hd => .inl hd, by omega⟩
    simp -implicitDefEqProofs [n3, tupK_nil, tb_nil, pyEq_tb]
  · have b0 : 0 < B.length := List.length_pos_iff.mpr c
    have hB' : ∀ r ∈ B, r.length ≤ 1000 := fun r hr => by rw [(hB r hr).len]; omega
    have l1 := fun m (q : Hh) => r_ladS m k (t := (B.length : Int)) (by omega) (by omega) ha q
    have rg := lad_rng (t := (B.length : Int)) (by omega) k
    generalize lad k (B.length : Int) = v1 at *
    obtain ⟨i, hi⟩ : ∃ c : Nat, v1.1 = (c : Int) := ⟨v1.1.toNat, by omega⟩
    rw [hi] at l1 rg
    have l2 := fun m (q : Hh) => r_ladS m v1.2 (t := (w : Int)) (by omega) (by omega) ha q
    have rg2 := lad_rng (t := (w : Int)) (by omega) v1.2
    generalize lad v1.2 (w : Int) = v2 at *
    obtain ⟨j, hj⟩ : ∃ c : Nat, v2.1 = (c : Int) := ⟨v2.1.toNat, by omega⟩
    rw [hj] at l2 rg2
    have iB : i < B.length := by omega
    have rr := hB _ (List.getElem_mem iB)
    have ixB : ∀ H : Hh, index (tb B) (.int (i : Int)) H = .ok (tr B[i]) H := fun H => index_at (items_tb H B) (by rw [tbs_len]; exact ixN_nat iB) (by rw [tbs_get, List.getElem?_eq_getElem iB]; rfl)
    have s1 : ∀ H : Hh, slice (tb B) .non (.int (i : Int)) H = .ok (tb (B.take i)) H := fun H => by
      have := slice_toT (ds := tbs B) (k := i) (h := H) (by rw [tbs_len]; omega)
      rw [tbs_take] at this
      exact this
    have s2 : ∀ H : Hh, slice (tb B) (.int ((i : Int) + 1)) .non H = .ok (tb (B.drop (i + 1))) H := fun H => by
      show R.ok (.tup (cut (tbs B) (some ((i + 1 : Nat) : Int)) none)) H = _
      rw [cut_fromA, tbs_drop]
      rfl
    have a1 : ∀ (x : D) (H : Hh), binop .add (tb (B.take i)) (.tup [x]) H = .ok (.tup (tbs (B.take i) ++ [x])) H := fun x H => bin_addT (by simp; omega) H
    have a2 : ∀ (x : D) (H : Hh), binop .add (.tup (tbs (B.take i) ++ [x])) (tb (B.drop (i + 1))) H = .ok (WW B i x) H := fun x H => bin_addT (by simp; omega) H
    generalize hr : B[i] = r at *
    have hbi : ∀ x, Near1 x → Nr (WW B i x) := fun x hx => WW_nr hB' bl hx
    have npW : ∀ x, isPtr (WW B i x) = false := fun _ => rfl
    -- the row, spoilt
    have lst : ∀ (k : K3), builtin .list [tr r] (h.set a (kl k) ++ [Y1, Y2, Y]) = .ok (.ptr (h.length + 3)) (h.set a (kl k) ++ [Y1, Y2, Y, intL r]) := fun k => by
      have : builtin .list [tr r] (h.set a (kl k) ++ [Y1, Y2, Y]) = newL (h.set a (kl k) ++ [Y1, Y2, Y]) (intL r) := rfl
      rw [this, newL1]
      simp
    have l8 : ∀ (k : K3), lstK [.int 0, .int 1, .int (p - 1), .int p, .int (-1), .bl true, .str "1", .non] (h.set a (kl k) ++ [Y1, Y2, Y, intL r]) = .ok (.ptr (h.length + 4)) (h.set a (kl k) ++ [Y1, Y2, Y, intL r, L8 p]) := fun k => by
      have : lstK [.int 0, .int 1, .int (p - 1), .int p, .int (-1), .bl true, .str "1", .non] (h.set a (kl k) ++ [Y1, Y2, Y, intL r]) = newL (h.set a (kl k) ++ [Y1, Y2, Y, intL r]) (L8 p) := rfl
      rw [this, newL1]
      simp
    obtain ⟨d, hd, pk⟩ := g_pick 0 v2.2 (ds := L8 p) (by simp [L8]) (by simp [L8]) (fun d hd => (L8_ok d hd).2.2) (a := a) (b := h.length + 4) (h := h.set a (kl v2.2) ++ [Y1, Y2, Y, intL r, L8 p]) (by omega) (ap_get (by rw [List.getElem?_set_self ha]) _) (by rw [List.getElem?_append_right (by simp)]; simp)
    rw [set_app (by simpa using ha), List.set_set] at pk
    generalize (lad v2.2 (L8 p).length).2 = k3 at *
    obtain ⟨kd, pd, _⟩ := L8_ok d hd
    have jl : j < (intL r).length := by rw [intL_len, rr.len]; omega
    have g3 : (h.set a (kl k3) ++ [Y1, Y2, Y, intL r, L8 p])[h.length + 3]? = some (intL r) := by rw [List.getElem?_append_right (by simp)]; simp
    have sd := fun σ => setD g3 jl pd σ
    have es : (h.set a (kl k3) ++ [Y1, Y2, Y, intL r, L8 p]).set (h.length + 3) ((intL r).set j d) = h.set a (kl k3) ++ [Y1, Y2, Y, (intL r).set j d, L8 p] := by
      rw [List.set_append_right _ _ (by simp)]
      simp
    rw [es] at sd
    have npr : ((intL r).set j d).any isPtr = false := by
      rw [List.any_eq_false]
      intro x hx
      rcases List.mem_or_eq_of_mem_set hx with e | e
      · obtain ⟨y, _, rfl⟩ := List.mem_map.mp e
        exact Bool.false_ne_true
      · rw [e, pd]; exact Bool.false_ne_true
    have n1r : Near1 (.tup ((intL r).set j d)) := ⟨rfl, (fun _ e => by cases e), fun ds e => by
      cases e
      refine ⟨fun x hx => ?_, by rw [List.length_set, intL_len, rr.len]; omega⟩
      rcases List.mem_or_eq_of_mem_set hx with e | e
      · obtain ⟨y, _, rfl⟩ := List.mem_map.mp e
        rfl
      · rw [e]; exact kd⟩
    have n1f : Near1 (.frl (intL r)) := n1_flat rfl (fun _ e => by cases e) fun _ e => by cases e
    have n1c : Near1 (.tup (cut (intL r) none (some (-1)))) := ⟨rfl, (fun _ e => by cases e), fun ds e => by
      cases e
      refine ⟨fun x hx => ?_, ?_⟩
      · obtain ⟨y, _, rfl⟩ := List.mem_map.mp (List.mem_of_mem_drop (List.mem_of_mem_take hx))
        rfl
      · unfold cut
        rw [List.length_take, List.length_drop, intL_len, rr.len]
        omega⟩
    have sc : ∀ H : Hh, slice (tr r) .non (.int (-1)) H = .ok (.tup (cut (intL r) none (some (-1)))) H := fun _ => rfl
    generalize cut (intL r) none (some (-1)) = cc at *
    generalize (intL r).set j d = rw' at *
    have tt : ∀ (Z : List D), builtin .tuple [.ptr (h.length + 3)] (h.set a (kl k3) ++ [Y1, Y2, Z, rw', L8 p]) = .ok (.tup rw') (h.set a (kl k3) ++ [Y1, Y2, Z, rw', L8 p]) := fun Z => by
      rw [bi_tuple (by rw [List.getElem?_append_right (by simp)]; simp; rfl)]
      unfold mkT
      rw [npr]
    have ap : ∀ (Z : List D) (x : D), Z.length ≤ 100000 → appK (.ptr (h.length + 2)) (WW B i x) (h.set a (kl k3) ++ [Y1, Y2, Z, rw', L8 p]) = .ok .non (h.set a (kl k3) ++ [Y1, Y2, Z ++ [WW B i x], rw', L8 p]) := fun Z x hz => by
      rw [appK_of (ds := Z) (by rw [List.getElem?_append_right (by simp)]; simp) (by omega) rfl, List.set_append_right _ _ (by simp)]
      simp
    have li : ∀ (Z : List D), builtin .list [tr r] (h.set a (kl k3) ++ [Y1, Y2, Z, rw', L8 p]) = .ok (.ptr (h.length + 5)) (h.set a (kl k3) ++ [Y1, Y2, Z, rw', L8 p, intL r]) := fun Z => by
      have : builtin .list [tr r] (h.set a (kl k3) ++ [Y1, Y2, Z, rw', L8 p]) = newL (h.set a (kl k3) ++ [Y1, Y2, Z, rw', L8 p]) (intL r) := rfl
      rw [this, newL1]
      simp
    have fz : ∀ (Z : List D), frzAt (h.length + 5) (.ptr (h.length + 5)) (h.set a (kl k3) ++ [Y1, Y2, Z, rw', L8 p, intL r]) = .ok (.frl (intL r)) (h.set a (kl k3) ++ [Y1, Y2, Z, rw', L8 p]) := fun Z => by
      have := frz_at0 (h := h.set a (kl k3) ++ [Y1, Y2, Z, rw', L8 p]) (intL_any r)
      simpa using this
    have t1 := fun H => tupK1 (x := .tup rw') rfl H
    have t2 := fun H => tupK1 (x := .frl (intL r)) rfl H
    have t3 := fun H => tupK1 (x := .tup cc) rfl H
    have p1 := ap Y (.tup rw') (by omega)
    have p2 := ap (Y ++ [WW B i (.tup rw')]) (.frl (intL r)) (by simp; omega)
    have p3 := ap (Y ++ [WW B i (.tup rw')] ++ [WW B i (.frl (intL r))]) (.tup cc) (by simp; omega)
    simp only [List.append_assoc, List.cons_append, List.nil_append] at p2 p3
    refine ⟨Y ++ [WW B i (.tup rw'), WW B i (.frl (intL r)), WW B i (.tup cc)], k3, [rw', L8 p], .ptr (h.length + 3), .int (i : Int), .int (j : Int), fun m => ?_, fun x hx => ?_, by simp⟩
    · have nc : decide (B = []) = false := decide_eq_false c
      have ln : ∀ H : Hh, builtin .len [tb B] H = .ok (.int (B.length : Int)) H := fun H => by rw [bi_len (items_tb H B), tbs_len]
      simp -implicitDefEqProofs [n3, tupK_nil, tb_nil, pyEq_tb, c, ln, l1, l2, ixB, lst, l8, pk, sd, s1, s2, tt, t1, t2, t3, a1, a2, p1, p2, p3, li, fz, sc]
    · rcases List.mem_append.mp hx with e | e
      · exact .inl e
      · right
        simp only [List.mem_cons, List.not_mem_nil, or_false] at e
        rcases e with rfl | rfl | rfl
        · exact hbi _ n1r
        · exact hbi _ n1f
        · exact hbi _ n1c
end K0
-- K0B
namespace K0
open PySem Ev Ev.Rx Li
theorem V_nr {p : Int} {w : Nat} (hw : w ≤ 100) {B : List Row} (hB : Rws p w B) (bl : B.length ≤ 100) : ∀ d ∈ V1 w B ++ V2 w B, Nr d := by
  have hB' : ∀ r ∈ B, r.length ≤ 1000 := fun r hr => by rw [(hB r hr).len]; omega
  have zl : (zr w).length ≤ 1000 := by unfold zr; rw [List.length_replicate]; omega
  intro d hd
  unfold V1 V2 at hd
  simp only [List.cons_append, List.nil_append, List.mem_cons, List.not_mem_nil, or_false] at hd
  have flat : ∀ {d : D}, known d = true → isPtr d = false → (∀ ds, d ≠ .tup ds) → (∀ ds, d ≠ .mtp ds) → Nr d := fun k p a b => nr_flat k p a b
  rcases hd with rfl | rfl | rfl | rfl | rfl | rfl | rfl | rfl | rfl | rfl | rfl | rfl | rfl
  · exact nr_tb (p := p) (w := w) hB' (by omega)
  · exact flat rfl rfl (fun _ e => by cases e) fun _ e => by cases e
  · exact nr_tb (p := p) (w := w) (fun r hr => hB' r (List.mem_reverse.mp hr)) (by simp; omega)
  · refine nr_tb (p := p) (w := w) (fun r hr => ?_) (by simp; omega)
    rcases List.mem_append.mp hr with e | e
    · exact hB' r e
    · rw [List.mem_singleton.mp e]; exact zl
  · exact flat rfl rfl (fun _ e => by cases e) fun _ e => by cases e
  · exact flat rfl rfl (fun _ e => by cases e) fun _ e => by cases e
  · exact flat rfl rfl (fun _ e => by cases e) fun _ e => by cases e
  · exact flat rfl rfl (fun _ e => by cases e) fun _ e => by cases e
  · refine nr_tup (fun d hd => ?_) (by unfold zr; rw [intL_len, List.length_replicate]; omega)
    obtain ⟨x, _, rfl⟩ := List.mem_map.mp hd
    exact n1_flat rfl (fun _ e => by cases e) fun _ e => by cases e
  · exact nr_tb (p := p) (w := w) (fun r hr => by rw [List.mem_singleton.mp hr]; exact zl) (by simp)
  · exact nr_tb (p := p) (w := w) (fun r hr => by rw [List.mem_singleton.mp hr, List.length_replicate]; omega) (by simp)
  · exact nr_tb (p := p) (w := w) (fun r hr => hB' r (List.mem_of_mem_drop hr)) (by simp; omega)
  · refine nr_tup (fun d hd => ?_) (by simp)
    rw [List.mem_singleton.mp hd]
    exact n1_flat rfl (fun _ e => by cases e) fun _ e => by cases e
theorem r_near {p : Int} (hp : Pr p) {w : Nat} (w0 : 0 < w) (hw : w ≤ 100) {B : List Row} (hB : Rws p w B) (bl : B.length ≤ 100) {a : Nat} {h : Hh} (k : K3) (ek : h[a]? = some (kl k)) :
    ∃ ds k', (∀ n, callF P (n + 120) 34 [.ptr a, .int p, .int (w : Int), tb B] h = .ok (.ptr h.length) (h.set a (kl k') ++ [ds])) ∧ (∀ d ∈ ds, Nr d) ∧ ds.length ≤ 16 := by
  have ha := (List.getElem?_eq_some_iff.mp ek).1
  obtain ⟨ds, k', q, u5, u6, u7, h3, hd, hl⟩ := m3 hp w0 hw hB bl ha (V1 w B) (V2 w B) (V1 w B ++ V2 w B) (by simp [V1, V2]) k
  have nr : ∀ d ∈ ds, Nr d := fun d hm => (hd d hm).elim (fun z => V_nr hw hB bl d z) id
  refine ⟨ds, k', fun n => ?_, nr, by simpa [V1, V2] using hl⟩
  have h1 := fun m => m1 m hw bl (.ptr a) (.int p) .una .una .una .una h
  have h2 := fun m => m2 m hw bl (.ptr a) (.int p) .una .una .una h
  rw [set_id ek] at h3
  rw [callF_at P fs34 rfl, b34_eq2]
  have bk : back h.length (.ptr (h.length + 2)) (h.set a (kl k') ++ (V1 w B :: V2 w B :: ds :: q)) = .ok (.ptr h.length) (h.set a (kl k') ++ [ds]) :=
    back_at h.length (by omega) (by rw [List.getElem?_append_right (by simp)]; simp) (by
      rw [List.any_eq_false]
      intro x hx
      rw [(nr x hx).2.2.1]
      exact Bool.false_ne_true) (List.take_left' (by simp))
  generalize V1 w B = Y1 at *
  generalize V2 w B = Y2 at *
  have gv : getV [.ptr a, .int p, .int (w : Int), tb B, .ptr (h.length + 2), u5, u6, u7] 4 (h.set a (kl k') ++ (Y1 :: Y2 :: ds :: q)) = .ok (.ptr (h.length + 2)) (h.set a (kl k') ++ (Y1 :: Y2 :: ds :: q)) := rfl
  simp -implicitDefEqProofs only [ev_cons, k_nx, k_rt, h1, h2, h3, n4, ev_ret, ev_var, gv, k_ret, rtK_eq, called_rt, bk, List.replicate, List.cons_append, List.nil_append, Nat.reduceSub]
end K0
-- K0C
namespace K0
open PySem Ev Ev.Rx Li
def s1 : I := (.sAsg (.gt (.gcons (.gv 5) (.gcons (.gv 6) .gnil))) (.tup (.acons (.cal 25 (.acons (.var 0) (.acons (.lst (.acons (.cst (.int 2)) (.acons (.cst (.int 3)) (.acons (.cst (.int 5)) (.acons (.cst (.int 7)) .anil))))) .anil))) (.acons (.bin .add (.cst (.int 1)) (.cal 24 (.acons (.var 0) (.acons (.cst (.int 5)) .anil)))) .anil))))
def s2 : I := (.sAsg (.gv 1) (.cal 32 (.acons (.var 0) (.acons (.var 5) (.acons (.cal 24 (.acons (.var 0) (.acons (.cst (.int 6)) .anil))) (.acons (.var 6) .anil))))))
def s3 : I := (.sAsg (.gt (.gcons (.gv 7) (.gcons (.gv 8) .gnil))) (.tup (.acons (.cal 20 (.acons (.var 5) (.acons (.var 6) (.acons (.blt .tuple (.acons (.var 1) .anil)) .anil)))) (.acons (.cal 28 (.acons (.var 5) (.acons (.var 1) (.acons (.var 6) .anil)))) .anil))))
def s4 : I := (.sIf (.or (.cmp .ne (.var 7) (.var 8)) (.or (.not (.tv (.cal 21 (.acons (.var 5) (.acons (.var 6) (.acons (.var 7) .anil)))))) (.one (.cmp .gt (.blt .len (.acons (.var 7) .anil)) (.blt .min2 (.acons (.var 6) (.acons (.blt .len (.acons (.var 1) .anil)) .anil))))))) (.sCons (.sRet (.cst (.bl false))) .sNil) .sNil)
def s5 : I := (.sAsg (.gv 2) (.cal 33 (.acons (.var 0) (.acons (.var 5) (.acons (.var 6) (.acons (.var 1) .anil))))))
def s6 : I := (.sIf (.or (.cmp .ne (.cal 20 (.acons (.var 5) (.acons (.var 6) (.acons (.blt .tuple (.acons (.var 2) .anil)) .anil)))) (.var 8)) (.one (.cmp .ne (.cal 20 (.acons (.var 5) (.acons (.var 6) (.acons (.var 7) .anil)))) (.var 8)))) (.sCons (.sRet (.cst (.bl false))) .sNil) .sNil)
def s7 : I := (.sIf (.cmp .lt (.blt .len (.acons (.var 7) .anil)) (.cst (.int 3))) (.sCons (.sAsg (.gv 9) (.cal 31 (.acons (.var 5) (.acons (.blt .list (.acons (.var 7) .anil)) (.acons (.var 6) .anil))))) (.sCons (.sIf (.or (.cmp .ne (.lset (.var 9)) (.blt .len (.acons (.var 9) .anil))) (.one (.cmp .ne (.lc (.gv 3) (.iS (.var 9)) (.not (.tv (.cal 30 (.acons (.var 5) (.acons (.var 7) (.acons (.var 3) .anil)))))) (.var 3) [3]) (.lst .anil)))) (.sCons (.sRet (.cst (.bl false))) .sNil) .sNil) (.sCons (.sIf (.cmp .ne (.lc (.gv 3) (.iS (.stp (.var 9) (.cst (.int 3)))) (.not (.tv (.cal 22 (.acons (.var 5) (.acons (.var 6) (.acons (.var 7) (.acons (.var 3) .anil))))))) (.var 3) [3]) (.lst .anil)) (.sCons (.sRet (.cst (.bl false))) .sNil) .sNil) .sNil))) .sNil)
def s8 : I := (.sFor (.gv 3) (.iS (.bin .add (.var 1) (.cal 32 (.acons (.var 0) (.acons (.var 5) (.acons (.cst (.int 5)) (.acons (.var 6) .anil))))))) (.sCons (.sIf (.cmp .ne (.cal 22 (.acons (.var 5) (.acons (.var 6) (.acons (.var 7) (.acons (.var 3) .anil))))) (.cmp .eq (.cal 28 (.acons (.var 5) (.acons (.bin .add (.var 1) (.lst (.acons (.var 3) .anil))) (.acons (.var 6) .anil)))) (.var 8))) (.sCons (.sRet (.cst (.bl false))) .sNil) .sNil) .sNil))
def s9 : I := (.sFor (.gv 4) (.iS (.cal 34 (.acons (.var 0) (.acons (.var 5) (.acons (.var 6) (.acons (.var 7) .anil)))))) (.sCons (.sIf (.cmp .ne (.cal 21 (.acons (.var 5) (.acons (.var 6) (.acons (.var 4) .anil)))) (.cal 29 (.acons (.var 5) (.acons (.var 6) (.acons (.var 4) .anil))))) (.sCons (.sRet (.cst (.bl false))) .sNil) .sNil) .sNil))
def s10 : I := (.sRet (.ife (.cmp .ne (.var 7) (.tup .anil)) (.not (.cal 21 (.acons (.var 5) (.acons (.bin .add (.var 6) (.cst (.int 1))) (.acons (.var 7) .anil))))) (.cal 21 (.acons (.var 5) (.acons (.bin .add (.var 6) (.cst (.int 1))) (.acons (.var 7) .anil))))))
theorem b35_eq : b35 = (.sCons s1 (.sCons s2 (.sCons s3 (.sCons s4 (.sCons s5 (.sCons s6 (.sCons s7 (.sCons s8 (.sCons s9 (.sCons s10 .sNil)))))))))) := rfl
section
variable {p : Int} {w : Nat} {S D : List Row}
theorem hold_iff (hp : Pr p) (hS : Rws p w S) (hD : D = base p (iv p) S w) {r : Row} (hr : Rw p w r) : decide (rest p D r = zr w) = decide (base p (iv p) (S ++ [r]) w = D) := by
  have hp0 : 0 < p := by have := hp.pos; omega
  have B := base_ok hp.pos.1 (inv_iv hp) hS
  have hSr : Rws p w (S ++ [r]) := hS.app fun s hs => by rw [List.mem_singleton.mp hs]; exact hr
  have C := base_ok hp.pos.1 (inv_iv hp) hSr
  rw [← hD] at B
  refine decide_eq_decide.mpr ?_
  rw [← in_iff hp0 B.1 hr]
  constructor
  · intro h
    refine red_eq hp0 C.1 B.1 fun v => (C.2 v).trans ⟨fun hv => ?_, fun hv => Sp.mono (fun s hs => List.mem_append_left _ hs) ((B.2 v).mp hv)⟩
    refine Sp.sub hp0 B.1.rw (fun s hs => ?_) hv
    rcases List.mem_append.mp hs with e | e
    · exact (B.2 s).mpr (Sp.mem hp0 hS e)
    · rw [List.mem_singleton.mp e]; exact h
  · intro h
    rw [← h]
    exact (C.2 r).mpr (Sp.mem hp0 hSr (List.mem_append_right _ (List.mem_cons_self ..)))
theorem told_eq (hp : Pr p) (hS : Rws p w S) : redd p (iv p) S = base p (iv p) S w := base_redd hp.pos.1 (inv_iv hp) (inv_iv hp) hS hS fun _ => Iff.rfl
theorem sp_true (hp : Pr p) (hD : Red p w D) : spB p w (tb D) = true := by
  show ((tbs D).all (isRow p w) && redC (rowsI (tbs D))) = true
  rw [rowsI_tbs, Bool.and_eq_true]
  refine ⟨List.all_eq_true.mpr fun d hd => ?_, (redC_iff hD.rw).mpr hD⟩
  obtain ⟨r, hr, rfl⟩ := List.mem_map.mp hd
  exact isRow_tr (hD.rw r hr)
theorem near_tb (hD : Rws p w D) (hw : w ≤ 100) (dl : D.length ≤ 200) : Near (tb D) ∧ ∀ ds, tb D = .tup ds → ds.length ≤ 200 := by
  have := nr_tb (p := p) (w := w) (S := D) (fun r hr => by rw [(hD r hr).len]; omega) dl
  exact ⟨this.1, this.2.2.2⟩
theorem tup_ptr {b : Nat} {H : Hh} (e : H[b]? = some (tbs S)) : builtin .tuple [.ptr b] H = .ok (tb S) H := by rw [bi_tuple e, mkT_tbs]
theorem u3 (m : Nat) (hp : Pr p) (w0 : 0 < w) (hw : w ≤ 100) (hS : Rws p w S) (sl : S.length ≤ 100) (b : Nat) (H : Hh) (e : H[b]? = some (tbs S)) (v0 v2 v3 v4 v7 v8 v9 : Ev.D) :
    ev P (m + 150) s3 [v0, .ptr b, v2, v3, v4, .int p, .int (w : Int), v7, v8, v9] H = .nx [v0, .ptr b, v2, v3, v4, .int p, .int (w : Int), tb (base p (iv p) S w), tb (base p (iv p) S w), v9] H := by
  have sp := fun m h => r_spaceof m hp w0 hw hS (by omega) h
  rw [told_eq hp hS] at sp
  have bs := fun m => r_lbase m hp w0 (show w ≤ 900 by omega) hS (by omega) (.ptr b) H rfl e
  have tk : tupK [tb (base p (iv p) S w), tb (base p (iv p) S w)] H = .ok (.tup [tb (base p (iv p) S w), tb (base p (iv p) S w)]) H := rfl
  generalize base p (iv p) S w = D at *
  simp -implicitDefEqProofs [s3, tup_ptr e, sp, bs, tk]
theorem u4 (m : Nat) (hp : Pr p) (w0 : 0 < w) (hw : w ≤ 100) (hD : Red p w D) (dl : D.length ≤ S.length) (b : Nat) (H : Hh) (e : H[b]? = some (tbs S)) (v0 v2 v3 v4 v9 : Ev.D) :
    ev P (m + 150) s4 [v0, .ptr b, v2, v3, v4, .int p, .int (w : Int), tb D, tb D, v9] H = .nx [v0, .ptr b, v2, v3, v4, .int p, .int (w : Int), tb D, tb D, v9] H := by
  have dw := red_len hD
  obtain ⟨n1, n2⟩ := near_tb (p := p) hD.rw hw (by omega)
  have is := fun m h => g_isspace m hp w0 hw (tb D) n1 n2 h
  rw [sp_true hp hD] at is
  have ln : ∀ H : Hh, builtin .len [tb D] H = .ok (.int (D.length : Int)) H := fun H => by rw [bi_len (items_tb H D), tbs_len]
  have ln2 : builtin .len [.ptr b] H = .ok (.int (S.length : Int)) H := by rw [bi_len (x := .ptr b) e, tbs_len]
  have ge : decide ((if (S.length : Int) < (w : Int) then (S.length : Int) else (w : Int)) < (D.length : Int)) = false := by
    refine decide_eq_false ?_
    split <;> omega
  simp -implicitDefEqProofs only [s4, ev_if, ev_or, ev_cmp, ev_var, getV_succ, getV_zero, una_tb, k_cmp, kd_cmp, cmp_ne, pyEq_tb, oB_some, k_or, ev_one, ev_not, ev_tv, ev_cal, ev_acons, una_int, k_acons, ev_anil, k_dcons, k_cal, is, k_not, ev_blt, k_blt, ln, una_ptr, ln2, bi_min, cmp_gt, gt_iff_lt, ge, k_if, ev_nil, decide_true, Bool.not_true, Bool.not_false, Bool.false_eq_true, if_false, if_true]
theorem u6 (m : Nat) (hp : Pr p) (w0 : 0 < w) (hw : w ≤ 100) {M : List Row} (hM : Rws p w M) (ml : M.length ≤ 200) (hD : Red p w D) (eM : redd p (iv p) M = D) (c : Nat) (H : Hh) (e : H[c]? = some (tbs M)) (v0 v1 v3 v4 v9 : Ev.D) :
    ev P (m + 150) s6 [v0, v1, .ptr c, v3, v4, .int p, .int (w : Int), tb D, tb D, v9] H = .nx [v0, v1, .ptr c, v3, v4, .int p, .int (w : Int), tb D, tb D, v9] H := by
  have dw := red_len hD
  have s1 := fun m h => r_spaceof m hp w0 hw hM ml h
  have s2 := fun m h => r_spaceof m hp w0 hw hD.rw (by omega) h
  rw [eM] at s1
  rw [redd_self hp.pos.1 (inv_iv hp) hD] at s2
  simp -implicitDefEqProofs [s6, tup_ptr e, s1, s2, pyEq_tb]
end
end K0
-- K0D
namespace K0
open PySem Ev Ev.Rx Li
theorem rowsD_tbs : ∀ (S : List Row), rowsD (tbs S) = some S
  | [] => rfl
  | r :: S => by
    show (match intsD (intL r) with
      | some is => (match rowsD (tbs S) with
        | some q => some (is :: q)
        | none => none)
      | none => none) = _
    rw [intsD_intL, rowsD_tbs S]
theorem stepL_mem {α : Type} {k : Int} {l : List α} {x : α} (h : x ∈ stepL k l) : x ∈ l := by
  unfold stepL at h
  cases c : decide (k < 0) with
  | true => rw [c] at h; exact List.mem_reverse.mp h
  | false =>
    rw [c] at h
    obtain ⟨m, _, e⟩ := List.mem_filterMap.mp h
    exact List.mem_of_getElem? e
theorem stepL_tbs (k : Int) (S : List Row) : stepL k (tbs S) = tbs (stepL k S) := by
  unfold stepL tbs
  cases decide (k < 0) with
  | true => exact (List.map_reverse ..).symm
  | false =>
    dsimp only
    rw [List.length_map, List.map_filterMap]
    refine congrArg (fun f => List.filterMap f _) (funext fun m => ?_)
    rw [List.getElem?_map]
section
variable {p : Int} {w : Nat} {S D : List Row}
theorem none_bad (m : Nat) (E : List Row) (el : E.length ≤ 1000) (x : Ev.D) (f : I) (u : Sg) (H : Hh) (e : itemsOf H x = some (tbs E)) (hf : ∀ r ∈ E, ∃ σ, lcT P m (.gv 3) f (.var 3) [3] u (tr r) H = .nx σ H) : loopC (.sq x) (lcT P m (.gv 3) f (.var 3) [3] u) turns 0 [] H = .oks (tbs []) H := by
  rw [lc_sel E tr (fun _ => false) tr (fun i _ => Ev.Rx.src_sq e i) (fun r hr => .inr ⟨rfl, hf r hr⟩) (by omega)]
  simp [tbs]
theorem u7 (hp : Pr p) (w0 : 0 < w) (hw : w ≤ 100) (hD : Red p w D) (H : Hh) (v0 v1 v2 v3 v4 v9 : Ev.D) :
    ∃ q v, ∀ m, ev P (m + 150) s7 [v0, v1, v2, v3, v4, .int p, .int (w : Int), tb D, tb D, v9] H = .nx [v0, v1, v2, v3, v4, .int p, .int (w : Int), tb D, tb D, v] (H ++ q) := by
  have hp0 : 0 < p := by have := hp.pos; omega
  have ln : ∀ H : Hh, builtin .len [tb D] H = .ok (.int (D.length : Int)) H := fun H => by rw [bi_len (items_tb H D), tbs_len]
  by_cases c : D.length < 3
  · obtain ⟨e1, e2, e3⟩ := sums_ok hp.pos.1 hD
    have rE := sums_rws hp0 (w := w) hD.rw
    have li : builtin .list [tb D] H = .ok (.ptr H.length) (H ++ [tbs D]) := rfl
    have sm := fun m => r_sums m hp hw hD.rw (by omega) H.length (H ++ [tbs D]) (by rw [h_get0]; rfl)
    have el := sums_len_le hp D w D.length (by omega)
    rw [List.take_of_length_le (Nat.le_refl _)] at el
    change (sumsF p w D).length ≤ 1000 at el
    have l49 : (sumsF p w D).length < 64 := by
      rw [e3]
      have pp := hp.pos
      have p7 : p.toNat ≤ 7 := by omega
      have : p.toNat ^ D.length ≤ 7 ^ 2 := Nat.le_trans (Nat.pow_le_pow_left p7 _) (Nat.pow_le_pow_right (by decide) (by omega))
      have z : (7 : Nat) ^ 2 = 49 := by decide
      omega
    generalize sumsF p w D = E at *
    rw [List.append_assoc] at sm
    have hl1 : (H ++ [tbs D]).length = H.length + 1 := by simp
    rw [hl1] at sm
    have g1 : ∀ q : Hh, (H ++ (tbs D :: tbs E :: q))[H.length + 1]? = some (tbs E) := fun q => by rw [h_get]; rfl
    have ls : ∀ q : Hh, lsetAt (.ptr (H.length + 1)) (H ++ (tbs D :: tbs E :: q)) = .ok (.int (E.length : Int)) (H ++ (tbs D :: tbs E :: q)) := fun q => by
      unfold lsetAt
      dsimp only
      rw [g1]
      dsimp only
      rw [rowsD_tbs]
      dsimp only
      rw [show Nat.blt E.length 64 = true from Nat.blt_eq.mpr l49]
      have : (nub E).length = E.length := Nat.le_antisymm (same_len (nub_nodup E) e1 fun x hx => (nub_mem x E).mp hx) (same_len e1 (nub_nodup E) fun x hx => (nub_mem x E).mpr hx)
      rw [this]
    have le : ∀ q : Hh, builtin .len [.ptr (H.length + 1)] (H ++ (tbs D :: tbs E :: q)) = .ok (.int (E.length : Int)) (H ++ (tbs D :: tbs E :: q)) := fun q => by rw [bi_len (x := .ptr (H.length + 1)) (g1 q), tbs_len]
    have hE : ∀ r ∈ E, Rw p w r ∧ rest p D r = zr w := fun r hr => ⟨rE r hr, rest_in hp0 hD (e2 r hr)⟩
    have lc1 : ∀ m u0 u1 u2 u3 u4 u9 (q : Hh), loopC (.sq (.ptr (H.length + 1))) (lcT P (m + 100) (.gv 3) (.not (.tv (.cal 30 (.acons (.var 5) (.acons (.var 7) (.acons (.var 3) .anil)))))) (.var 3) [3] [u0, u1, u2, u3, u4, .int p, .int (w : Int), tb D, tb D, u9]) turns 0 [] (H ++ (tbs D :: tbs E :: q)) = .oks (tbs []) (H ++ (tbs D :: tbs E :: q)) := fun m u0 u1 u2 u3 u4 u9 q =>
      none_bad _ E el _ _ _ _ (g1 q) fun r hr => by
        obtain ⟨a1, a2⟩ := hE r hr
        rw [lcT_eq]
        simp -implicitDefEqProofs [wipeD, r_lhas _ hp w0 (show w ≤ 900 by omega) hD a1, a2]
    have hE3 : ∀ r ∈ stepL 3 E, Rw p w r ∧ rest p D r = zr w := fun r hr => hE r (stepL_mem hr)
    have el3 : (stepL 3 E).length ≤ 1000 := Nat.le_trans (stepL_len 3 E (.inr (by decide))) el
    have lc2 : ∀ m u0 u1 u2 u3 u4 u9 (x : Ev.D) (HH : Hh), itemsOf HH x = some (tbs (stepL 3 E)) → loopC (.sq x) (lcT P (m + 100) (.gv 3) (.not (.tv (.cal 22 (.acons (.var 5) (.acons (.var 6) (.acons (.var 7) (.acons (.var 3) .anil))))))) (.var 3) [3] [u0, u1, u2, u3, u4, .int p, .int (w : Int), tb D, tb D, u9]) turns 0 [] HH = .oks (tbs []) HH := fun m u0 u1 u2 u3 u4 u9 x HH ex =>
      none_bad _ _ el3 _ _ _ _ ex fun r hr => by
        obtain ⟨a1, a2⟩ := hE3 r hr
        rw [lcT_eq]
        simp -implicitDefEqProofs [wipeD, r_hold _ hp w0 hw hD a1, a2]
    have st : stepAt (.ptr (H.length + 1)) (.int 3) (H ++ [tbs D, tbs E, tbs [], tbs []]) = .ok (.ptr (H.length + 4)) (H ++ [tbs D, tbs E, tbs [], tbs [], tbs (stepL 3 E)]) := by
      have : stepAt (.ptr (H.length + 1)) (.int 3) (H ++ [tbs D, tbs E, tbs [], tbs []]) = newL (H ++ [tbs D, tbs E, tbs [], tbs []]) (stepL 3 (tbs E)) := by
        unfold stepAt
        dsimp only
        rw [show stepOk 3 = true from rfl]
        dsimp only
        rw [g1]
      rw [this, stepL_tbs, newL1]
      rfl
    generalize stepL 3 E = E3 at *
    have ll : ∀ hh : Hh, lstK [] hh = newL hh (tbs []) := fun _ => rfl
    have pe1 := pyEq_lrows (h := H ++ [tbs D, tbs E, tbs [], tbs []]) (a := H.length + 2) (b := H.length + 3) (S := []) (T := []) (by rw [h_get]; rfl) (by rw [h_get]; rfl)
    have g4 : (H ++ [tbs D, tbs E, tbs [], tbs [], tbs E3])[H.length + 4]? = some (tbs E3) := by rw [h_get]; rfl
    have lc3 := fun m u0 u1 u2 u3 u4 u9 => lc2 m u0 u1 u2 u3 u4 u9 (.ptr (H.length + 4)) _ g4
    have pe2 := pyEq_lrows (h := H ++ [tbs D, tbs E, tbs [], tbs [], tbs E3, tbs [], tbs []]) (a := H.length + 5) (b := H.length + 6) (S := []) (T := []) (by rw [h_get]; rfl) (by rw [h_get]; rfl)
    refine ⟨[tbs D, tbs E, tbs [], tbs [], tbs E3, tbs [], tbs []], .ptr (H.length + 1), fun m => ?_⟩
    have ci : (D.length : Int) < 3 := by omega
    have sq1 := fun q => sqK_of (x := .ptr (H.length + 1)) (g1 q)
    simp only [List.cons_append, List.nil_append] at sm
    simp -implicitDefEqProofs [s7, ln, ci, li, sm, ls, le, pyEq_int, sq1, lc1, newL1, ll, pe1, st, sqK_of (x := .ptr (H.length + 4)) g4, lc3, pe2]
  · refine ⟨[], v9, fun m => ?_⟩
    have ci : ¬ (D.length : Int) < 3 := by omega
    simp -implicitDefEqProofs [s7, ln, ci]
end
end K0
-- K0E
namespace K0
open PySem Ev Ev.Rx Li
def wF (k : K3) : Nat := 1 + (lad k 5).1.toNat
theorem wF_rng (k : K3) : 0 < wF k ∧ wF k ≤ 5 := by
  have := lad_rng (t := 5) (by omega) k
  unfold wF
  omega
theorem q1 (m : Nat) (k : K3) {a : Nat} {h : Hh} (e : h[a]? = some (kl k)) :
    ev P (m + 170) s1 [.ptr a, .una, .una, .una, .una, .una, .una, .una, .una, .una] h = .nx [.ptr a, .una, .una, .una, .una, .int (pkF k).1, .int (wF (pkF k).2 : Int), .una, .una, .una] (h.set a (kl (lad (pkF k).2 5).2) ++ [intL P4]) := by
  have ha := (List.getElem?_eq_some_iff.mp e).1
  have lk : lstK [.int 2, .int 3, .int 5, .int 7] h = .ok (.ptr h.length) (h ++ [intL P4]) := rfl
  have pk := fun m => r_pick m k (a := a) (b := h.length) (h := h ++ [intL P4]) (by omega) (ap_get e _) (by rw [h_get0]; rfl)
  rw [set_app ha] at pk
  have l1 := fun m => r_ladS m (pkF k).2 (t := 5) (by omega) (by omega) ha [intL P4]
  have rg := lad_rng (t := 5) (by omega) (pkF k).2
  unfold wF
  generalize lad (pkF k).2 5 = v at *
  obtain ⟨c, hc⟩ : ∃ c : Nat, v.1 = (c : Int) := ⟨v.1.toNat, by omega⟩
  rw [hc] at l1 rg ⊢
  rw [Int.toNat_natCast]
  have tk := fun hh => tupK_of (ds := [.int (pkF k).1, .int (1 + (c : Int))]) (by simp) hh
  have mk : mkT [D.int (pkF k).1, .int (1 + (c : Int))] = .tup [.int (pkF k).1, .int (1 + (c : Int))] := rfl
  rw [mk] at tk
  simp -implicitDefEqProofs [s1, lk, pk, l1, tk]
theorem q2 {p : Int} (hp : Pr p) {w : Nat} (hw : w ≤ 100) (k : K3) {a : Nat} {h : Hh} (ha : a < h.length) :
    ∃ S k', (∀ m, ev P (m + 170) s2 [.ptr a, .una, .una, .una, .una, .int p, .int (w : Int), .una, .una, .una] (h.set a (kl k) ++ [intL P4]) = .nx [.ptr a, .ptr (h.length + 1), .una, .una, .una, .int p, .int (w : Int), .una, .una, .una] (h.set a (kl k') ++ [intL P4, tbs S])) ∧ Rws p w S ∧ S.length ≤ 5 := by
  have hp0 : 0 < p := by have := hp.pos; omega
  have l1 := fun m => r_ladS m k (t := 6) (by omega) (by omega) ha [intL P4]
  have rg := lad_rng (t := 6) (by omega) k
  generalize lad k 6 = v at *
  obtain ⟨c, hc⟩ : ∃ c : Nat, v.1 = (c : Int) := ⟨v.1.toNat, by omega⟩
  rw [hc] at l1 rg
  have e : (h.set a (kl v.2) ++ [intL P4])[a]? = some (kl v.2) := ap_get (by rw [List.getElem?_set_self ha]) _
  have ln := fun m => r_lines m hp v.2 e (w := w) (many := c) (by omega) (by omega)
  rw [set_app (by simpa using ha), List.set_set] at ln
  have rs : Rws p w (linF p w c v.2).1 ∧ (linF p w c v.2).1.length = c := lnF_rws hp0 _ w c _
  generalize linF p w c v.2 = M at *
  refine ⟨M.1, M.2, fun m => ?_, rs.1, by omega⟩
  have hl : (h.set a (kl v.2) ++ [intL P4]).length = h.length + 1 := by simp
  rw [hl, List.append_assoc] at ln
  simp only [List.cons_append, List.nil_append] at ln
  simp -implicitDefEqProofs [s2, l1, ln]
theorem q5 {p : Int} (hp : Pr p) {w : Nat} (hw : w ≤ 100) {S : List Row} (hS : Rws p w S) (sl : S.length ≤ 5) (k : K3) {a b : Nat} {H : Hh} (ab : a ≠ b) (e : H[a]? = some (kl k)) (eb : H[b]? = some (tbs S)) (v2 v3 v4 v7 v8 v9 : Ev.D) :
    ∃ M k', (∀ m, ev P (m + 170) s5 [.ptr a, .ptr b, v2, v3, v4, .int p, .int (w : Int), v7, v8, v9] H = .nx [.ptr a, .ptr b, .ptr H.length, v3, v4, .int p, .int (w : Int), v7, v8, v9] (H.set a (kl k') ++ [tbs M])) ∧ Rws p w M ∧ M.length ≤ 10 ∧ redd p (iv p) M = base p (iv p) S w := by
  have hb := (List.getElem?_eq_some_iff.mp eb).1
  have hp0 : 0 < p := by have := hp.pos; omega
  have rm := fun m => r_mixed m hp hw hS (by omega) hb ab eb k e
  obtain ⟨m1, m2, m3⟩ := mx_ok hp hS k S.length (Nat.le_refl _)
  rw [List.take_length] at m3
  generalize mxF p w S k S.length = M at *
  have hT : Rws p w (M.1.take 1) := fun r hr => m1 r (List.mem_of_mem_take hr)
  refine ⟨M.1 ++ M.1.take 1, M.2, fun m => ?_, m1.app hT, by rw [List.length_append, List.length_take]; omega, ?_⟩
  · simp -implicitDefEqProofs [s5, rm]
  · refine base_redd hp.pos.1 (inv_iv hp) (inv_iv hp) (m1.app hT) hS fun u => ?_
    rw [← m3 u]
    refine ⟨fun hu => ?_, fun hu => Sp.mono (fun s hs => List.mem_append_left _ hs) hu⟩
    refine Sp.mono (fun s hs => ?_) hu
    rcases List.mem_append.mp hs with e | e
    · exact e
    · exact List.mem_of_mem_take e
end K0
-- K0F
namespace K0
open PySem Ev Ev.Rx Li
def i8 : I := (.sCons (.sIf (.cmp .ne (.cal 22 (.acons (.var 5) (.acons (.var 6) (.acons (.var 7) (.acons (.var 3) .anil))))) (.cmp .eq (.cal 28 (.acons (.var 5) (.acons (.bin .add (.var 1) (.lst (.acons (.var 3) .anil))) (.acons (.var 6) .anil)))) (.var 8))) (.sCons (.sRet (.cst (.bl false))) .sNil) .sNil) .sNil)
theorem s8_eq : s8 = (.sFor (.gv 3) (.iS (.bin .add (.var 1) (.cal 32 (.acons (.var 0) (.acons (.var 5) (.acons (.cst (.int 5)) (.acons (.var 6) .anil))))))) i8) := rfl
def i9 : I := (.sCons (.sIf (.cmp .ne (.cal 21 (.acons (.var 5) (.acons (.var 6) (.acons (.var 4) .anil)))) (.cal 29 (.acons (.var 5) (.acons (.var 6) (.acons (.var 4) .anil))))) (.sCons (.sRet (.cst (.bl false))) .sNil) .sNil) .sNil)
theorem s9_eq : s9 = (.sFor (.gv 4) (.iS (.cal 34 (.acons (.var 0) (.acons (.var 5) (.acons (.var 6) (.acons (.var 7) .anil)))))) i9) := rfl
/-- what the loop leaves on the heap -/
def gr (S T : List Row) : Hh := T.flatMap fun r => [tbs [r], tbs (S ++ [r])]
theorem gr_take {S T : List Row} {i : Nat} (hi : i < T.length) : gr S (T.take (i + 1)) = gr S (T.take i) ++ [tbs [T[i]], tbs (S ++ [T[i]])] := by
  unfold gr
  rw [List.take_succ_eq_append_getElem hi, List.flatMap_append]
  rfl
theorem q8 {p : Int} (hp : Pr p) {w : Nat} (w0 : 0 < w) (hw : w ≤ 100) {S D : List Row} (hS : Rws p w S) (sl : S.length ≤ 5) (hD : D = base p (iv p) S w) (k : K3) {a b : Nat} {H : Hh} (ab : a ≠ b) (e : H[a]? = some (kl k)) (eb : H[b]? = some (tbs S)) (v2 v3 v4 v9 : Ev.D) :
    ∃ k' q', ∀ m, ∃ v : Ev.D, ev P (m + 170) s8 [.ptr a, .ptr b, v2, v3, v4, .int p, .int (w : Int), tb D, tb D, v9] H = .nx [.ptr a, .ptr b, v2, v, v4, .int p, .int (w : Int), tb D, tb D, v9] (H.set a (kl k') ++ q') := by
  have hp0 : 0 < p := by have := hp.pos; omega
  have ha := (List.getElem?_eq_some_iff.mp e).1
  have B := (base_ok hp.pos.1 (inv_iv hp) hS).1
  rw [← hD] at B
  refine ⟨(linF p w 5 k).2, tbs (linF p w 5 k).1 :: tbs (S ++ (linF p w 5 k).1) :: gr S (S ++ (linF p w 5 k).1), fun m => ?_⟩
  have ln := fun m => r_lines m hp k e (w := w) (many := 5) (by omega) (by omega)
  have rs : Rws p w (linF p w 5 k).1 ∧ (linF p w 5 k).1.length = 5 := lnF_rws hp0 _ w 5 _
  generalize linF p w 5 k = L at *
  have ln5 : ∀ m, callF P (m + 100) 32 [.ptr a, .int p, .int 5, .int (w : Int)] H = .ok (.ptr H.length) (H.set a (kl L.2) ++ [tbs L.1]) := fun m => ln m
  have ebq : ∀ q : Hh, (H.set a (kl L.2) ++ q)[b]? = some (tbs S) := fun q => ap_get (by rw [List.getElem?_set_ne ab, eb]) q
  have ad1 : binop .add (.ptr b) (.ptr H.length) (H.set a (kl L.2) ++ [tbs L.1]) = .ok (.ptr (H.length + 1)) (H.set a (kl L.2) ++ [tbs L.1, tbs (S ++ L.1)]) := by
    rw [bin_addL (es := tbs L.1) (ebq _) (by rw [List.getElem?_append_right (by simp)]; simp) (by simp; omega), tbs_app, newL1]
    simp
  have eT : ∀ q : Hh, itemsOf (H.set a (kl L.2) ++ (tbs L.1 :: tbs (S ++ L.1) :: q)) (.ptr (H.length + 1)) = some (tbs (S ++ L.1)) := fun q => by
    rw [items_ptr, List.getElem?_append_right (by simp)]; simp
  have hT : Rws p w (S ++ L.1) := hS.app rs.1
  have tl : (S ++ L.1).length ≤ 10 := by rw [List.length_append]; omega
  generalize S ++ L.1 = T at *
  obtain ⟨σ', h', e0, v3', e1, e2⟩ := loopF_inv (s := .sq (.ptr (H.length + 1))) (f := forT P (m + 169) (.gv 3) i8)
    (fun i σ hh => ∃ v3, σ = [.ptr a, .ptr b, v2, v3, v4, .int p, .int (w : Int), tb D, tb D, v9] ∧ hh = H.set a (kl L.2) ++ (tbs L.1 :: tbs T :: gr S (T.take i))) T.length
    (fun i σ hh hi ⟨v3, e1, e2⟩ => by
      subst e1 e2
      have rr := hT _ (List.getElem_mem hi)
      have iff := hold_iff hp hS hD rr
      have hSr : Rws p w (S ++ [T[i]]) := hS.app fun s hs => by rw [List.mem_singleton.mp hs]; exact rr
      refine ⟨tr T[i], [.ptr a, .ptr b, v2, tr T[i], v4, .int p, .int (w : Int), tb D, tb D, v9], H.set a (kl L.2) ++ (tbs L.1 :: tbs T :: (gr S (T.take i) ++ [tbs [T[i]], tbs (S ++ [T[i]])])), ?_, .inl ?_, _, rfl, (by rw [gr_take hi])⟩
      · rw [Ev.Rx.src_sq (eT _), tbs_get, List.getElem?_eq_getElem hi]
        rfl
      · have h1 := fun m h => r_hold m hp w0 hw B rr h
        rw [iff] at h1
        generalize gr S (T.take i) = q at *
        generalize T[i] = r at *
        have eA : H.set a (kl L.2) ++ (tbs L.1 :: tbs T :: (q ++ [tbs [r], tbs (S ++ [r])])) = (H.set a (kl L.2) ++ (tbs L.1 :: tbs T :: q)) ++ [tbs [r], tbs (S ++ [r])] := by simp
        rw [eA]
        have ebq' := ebq (tbs L.1 :: tbs T :: q)
        generalize H.set a (kl L.2) ++ (tbs L.1 :: tbs T :: q) = G at *
        have lk : lstK [tr r] G = .ok (.ptr G.length) (G ++ [tbs [r]]) := rfl
        have ad2 : binop .add (.ptr b) (.ptr G.length) (G ++ [tbs [r]]) = .ok (.ptr (G.length + 1)) (G ++ [tbs [r], tbs (S ++ [r])]) := by
          rw [bin_addL (es := tbs [r]) (ap_get ebq' _) (by rw [h_get0]; rfl) (by simp; omega), tbs_app, newL1]
          rfl
        have lb := fun m => r_lbase m hp w0 (show w ≤ 900 by omega) hSr (by simp; omega) (.ptr (G.length + 1)) (G ++ [tbs [r], tbs (S ++ [r])]) rfl (by rw [items_ptr, h_get]; rfl)
        generalize base p (iv p) (S ++ [r]) w = Z at *
        generalize tbs (S ++ [r]) = Y at *
        have pe : ∀ h : Hh, pyEq h (tb Z) (tb D) = some (decide (Z = D)) := fun h => pyEq_tb ..
        generalize decide (Z = D) = x at *
        cases x <;> simp -implicitDefEqProofs [i8, h1, lk, ad2, lb, pe, pyEq_bl])
    (fun σ hh ⟨v3, e1, e2⟩ => by
      subst e2
      rw [Ev.Rx.src_sq (eT _), tbs_get, List.getElem?_eq_none (Nat.le_refl _)]
      rfl) turns 0 _ (H.set a (kl L.2) ++ [tbs L.1, tbs T]) (by unfold turns; omega) (Nat.zero_le _) ⟨v3, rfl, rfl⟩
  rw [List.take_length] at e2
  refine ⟨v3', ?_⟩
  rw [s8_eq]
  have sq := sqK_of (eT [])
  simp -implicitDefEqProofs [ln5, ad1, sq]
  rw [e0, e1, e2]
theorem q9 {p : Int} (hp : Pr p) {w : Nat} (w0 : 0 < w) (hw : w ≤ 100) {D : List Row} (hD : Red p w D) (k : K3) {a : Nat} {H : Hh} (e : H[a]? = some (kl k)) :
    ∃ k' q', ∀ m v1 v2 v3 v4 v9, ∃ v : Ev.D, ev P (m + 170) s9 [.ptr a, v1, v2, v3, v4, .int p, .int (w : Int), tb D, tb D, v9] H = .nx [.ptr a, v1, v2, v3, v, .int p, .int (w : Int), tb D, tb D, v9] (H.set a (kl k') ++ q') := by
  have dw := red_len hD
  obtain ⟨ds, k', rn, nr, dl⟩ := r_near hp w0 hw hD.rw (by omega) k e
  refine ⟨k', [ds], fun m v1 v2 v3 v4 v9 => ?_⟩
  have eS : itemsOf (H.set a (kl k') ++ [ds]) (.ptr H.length) = some ds := by
    rw [items_ptr, List.getElem?_append_right (by simp)]; simp
  generalize H.set a (kl k') ++ [ds] = H2 at *
  obtain ⟨σ', h', e0, ⟨v4', e1⟩, e2⟩ := loopF_inv (s := .sq (.ptr H.length)) (f := forT P (m + 169) (.gv 4) i9)
    (fun i σ hh => (∃ v4, σ = [.ptr a, v1, v2, v3, v4, .int p, .int (w : Int), tb D, tb D, v9]) ∧ hh = H2) ds.length
    (fun i σ hh hi ⟨⟨v4, e1⟩, e2⟩ => by
      subst e1 e2
      obtain ⟨n1, n2, n3, n4⟩ := nr _ (List.getElem_mem hi)
      refine ⟨ds[i], [.ptr a, v1, v2, v3, ds[i], .int p, .int (w : Int), tb D, tb D, v9], hh, ?_, .inl ?_, ⟨_, rfl⟩, rfl⟩
      · rw [Ev.Rx.src_sq eS, List.getElem?_eq_getElem hi]
      · have h1 := fun m h => g_isspace m hp w0 hw ds[i] n1 n4 h
        have h2 := fun m h => g_isbase m hp w0 (show w ≤ 200 by omega) ds[i] n1 n4 h
        rw [← sp_ba hp] at h2
        generalize ds[i] = d at *
        generalize spB p w d = x at *
        simp -implicitDefEqProofs [i9, h1, h2, n2, n3, pyEq_bl])
    (fun σ hh ⟨⟨v4, e1⟩, e2⟩ => by
      subst e2
      rw [Ev.Rx.src_sq eS, List.getElem?_eq_none (Nat.le_refl _)]) turns 0 _ H2 (by unfold turns; omega) (Nat.zero_le _) ⟨⟨v4, rfl⟩, rfl⟩
  refine ⟨v4', ?_⟩
  rw [s9_eq]
  simp -implicitDefEqProofs [rn, sqK_of eS]
  rw [e0, e1, e2]
theorem sp_wide {p : Int} {w : Nat} {D : List Row} (hD : Red p w D) (h : D ≠ []) : spB p (w + 1) (tb D) = false := by
  obtain ⟨r, D', rfl⟩ : ∃ r D', D = r :: D' := by
    cases D with
    | nil => exact absurd rfl h
    | cons r D' => exact ⟨r, D', rfl⟩
  have rr := hD.rw r (List.mem_cons_self ..)
  show ((tbs (r :: D')).all (isRow p (w + 1)) && redC (rowsI (tbs (r :: D')))) = false
  have : isRow p (w + 1) (tr r) = false := by
    show (decide ((intL r).length = w + 1) && (intL r).all (inW 0 (p - 1))) = false
    rw [intL_len, rr.len, decide_eq_false (by omega), Bool.false_and]
  have e : (tbs (r :: D')).all (isRow p (w + 1)) = false := by
    show (isRow p (w + 1) (tr r) && (tbs D').all (isRow p (w + 1))) = false
    rw [this, Bool.false_and]
  rw [e, Bool.false_and]
theorem q10 (m : Nat) {p : Int} (hp : Pr p) {w : Nat} (w0 : 0 < w) (hw : w ≤ 10) {D : List Row} (hD : Red p w D) (v0 v1 v2 v3 v4 v9 : Ev.D) (H : Hh) :
    ev P (m + 170) s10 [v0, v1, v2, v3, v4, .int p, .int (w : Int), tb D, tb D, v9] H = .rt (.bl true) H := by
  have dw := red_len hD
  obtain ⟨n1, n2⟩ := near_tb (p := p) hD.rw (show w ≤ 100 by omega) (by omega)
  have is := fun m h => g_isspace m hp (w := w + 1) (by omega) (by omega) (tb D) n1 n2 h
  have ew : ((w + 1 : Nat) : Int) = (w : Int) + 1 := rfl
  simp only [ew] at is
  by_cases c : D = []
  · subst c
    have : spB p (w + 1) (tb []) = true := rfl
    rw [this] at is
    have is' : ∀ m h, callF P (m + 80) 21 [.int p, .int ((w : Int) + 1), .tup []] h = .ok (.bl true) h := is
    simp -implicitDefEqProofs [s10, tupK_nil, tb_nil, pyEq_tb, is]
  · rw [sp_wide hD c] at is
    simp -implicitDefEqProofs [s10, tupK_nil, tb_nil, pyEq_tb, c, is]
end K0
-- K0G
namespace K0
open PySem Ev Ev.Rx Li
theorem pick2 {α β : Type} {Q : Nat → β → α → Prop} (h : ∀ m x, ∃ r, Q m x r) : ∃ r : Nat → β → α, ∀ m x, Q m x (r m x) := ⟨fun m x => Classical.choose (h m x), fun m x => Classical.choose_spec (h m x)⟩
theorem r_right (k : K3) {a : Nat} {h : Hh} (e : h[a]? = some (kl k)) : ∃ k', ∀ n, callF P (n + 200) 35 [.ptr a] h = .ok (.bl true) (h.set a (kl k')) := by
  have ha := (List.getElem?_eq_some_iff.mp e).1
  have hp := pkF_pr k
  have wr := wF_rng (pkF k).2
  have h1 := fun m => q1 m k e
  generalize (pkF k).1 = p at *
  generalize wF (pkF k).2 = w at *
  generalize (lad (pkF k).2 5).2 = k0 at *
  have w0 := wr.1
  have hw : w ≤ 100 := by omega
  obtain ⟨S, k1, h2, hS, sl⟩ := q2 hp hw k0 ha
  have ea1 : (h.set a (kl k1) ++ [intL P4, tbs S])[a]? = some (kl k1) := ap_get (by rw [List.getElem?_set_self ha]) _
  have eb1 : (h.set a (kl k1) ++ [intL P4, tbs S])[h.length + 1]? = some (tbs S) := by rw [List.getElem?_append_right (by simp)]; simp
  have h3 := fun m => u3 m hp w0 hw hS (by omega) (h.length + 1) (h.set a (kl k1) ++ [intL P4, tbs S]) eb1 (.ptr a) .una .una .una .una .una .una
  have hD := (base_ok hp.pos.1 (inv_iv hp) hS).1
  have dl : (base p (iv p) S w).length ≤ S.length := by
    rw [← told_eq hp hS]
    have := fold_len_le p (iv p) S []
    rw [List.length_nil, Nat.zero_add] at this
    exact this
  have h4 := fun m => u4 m hp w0 hw hD dl (h.length + 1) (h.set a (kl k1) ++ [intL P4, tbs S]) eb1 (.ptr a) .una .una .una .una
  obtain ⟨M, k2, h5, hM, ml, eM⟩ := q5 hp hw hS sl k1 (by omega) ea1 eb1 .una .una .una (tb (base p (iv p) S w)) (tb (base p (iv p) S w)) .una
  have hl : (h.set a (kl k1) ++ [intL P4, tbs S]).length = h.length + 2 := by simp
  rw [hl, set_app (by simpa using ha), List.set_set, List.append_assoc] at h5
  simp only [List.cons_append, List.nil_append] at h5
  have ec2 : (h.set a (kl k2) ++ [intL P4, tbs S, tbs M])[h.length + 2]? = some (tbs M) := by rw [List.getElem?_append_right (by simp)]; simp
  have h6 := fun m => u6 m hp w0 hw hM (by omega) hD eM (h.length + 2) (h.set a (kl k2) ++ [intL P4, tbs S, tbs M]) ec2 (.ptr a) (.ptr (h.length + 1)) .una .una .una
  obtain ⟨t7, x9, h7⟩ := u7 hp w0 hw hD (h.set a (kl k2) ++ [intL P4, tbs S, tbs M]) (.ptr a) (.ptr (h.length + 1)) (.ptr (h.length + 2)) .una .una .una
  rw [List.append_assoc] at h7
  simp only [List.cons_append, List.nil_append] at h7
  have ea7 : (h.set a (kl k2) ++ (intL P4 :: tbs S :: tbs M :: t7))[a]? = some (kl k2) := ap_get (by rw [List.getElem?_set_self ha]) _
  have eb7 : (h.set a (kl k2) ++ (intL P4 :: tbs S :: tbs M :: t7))[h.length + 1]? = some (tbs S) := by rw [List.getElem?_append_right (by simp)]; simp
  obtain ⟨k3, t8, h8⟩ := q8 hp w0 hw hS sl rfl k2 (by omega) ea7 eb7 (.ptr (h.length + 2)) .una .una x9
  rw [set_app (by simpa using ha), List.set_set, List.append_assoc] at h8
  obtain ⟨x3, h8⟩ := pick1 h8
  simp only [List.cons_append, List.nil_append] at h8
  generalize intL P4 :: tbs S :: tbs M :: (t7 ++ t8) = T8 at *
  generalize intL P4 :: tbs S :: tbs M :: t7 = T7 at *
  have ea8 : (h.set a (kl k3) ++ T8)[a]? = some (kl k3) := ap_get (by rw [List.getElem?_set_self ha]) _
  obtain ⟨k4, t9, h9⟩ := q9 hp w0 hw hD k3 ea8
  rw [set_app (by simpa using ha), List.set_set, List.append_assoc] at h9
  have h9 := fun m x => h9 m (.ptr (h.length + 1) : Ev.D) (.ptr (h.length + 2)) x .una x9
  obtain ⟨x4, h9⟩ := pick2 h9
  have h10 := fun m u3 u4 => q10 m hp w0 (show w ≤ 10 by omega) hD (.ptr a) (.ptr (h.length + 1)) (.ptr (h.length + 2)) u3 u4 x9 (h.set a (kl k4) ++ (T8 ++ t9))
  have tk : (h.set a (kl k4) ++ (T8 ++ t9)).take h.length = h.set a (kl k4) := List.take_left' (by simp)
  refine ⟨k4, fun n => ?_⟩
  rw [callF_at P fs35 rfl, b35_eq]
  simp -implicitDefEqProofs only [ev_cons, k_nx, k_rt, h1, h2, h3, h4, h5, h6, h7, h8, h9, h10, called_rt, back_bl, tk, List.replicate, List.cons_append, List.nil_append, Nat.reduceSub]
end K0
-- K0H
namespace K0
open PySem Ev Ev.Rx Li
def l1 : I := (.sFor (.gv 1) (.iR (.acons (.blt .max2 (.acons (.cst (.int 1)) (.acons (.blt .min2 (.acons (.cst (.int 2)) (.acons (.blt .len (.acons (.var 0) .anil)) .anil))) .anil))) .anil)) (.sCons (.sIf (.not (.tv (.cal 35 (.acons (.cal 23 (.acons (.var 0) (.acons (.var 1) .anil))) .anil)))) (.sCons (.sRet (.cst (.bl false))) .sNil) .sNil) .sNil))
def l2 : I := (.sAsg (.gv 2) (.lst (.acons (.cal 20 (.acons (.cst (.int 3)) (.acons (.cst (.int 3)) (.acons (.tup (.acons (.tup (.acons (.cst (.int 1)) (.acons (.cst (.int 2)) (.acons (.cst (.int 0)) .anil)))) (.acons (.tup (.acons (.cst (.int 2)) (.acons (.cst (.int 1)) (.acons (.cst (.int 0)) .anil)))) (.acons (.tup (.acons (.cst (.int 0)) (.acons (.cst (.int 1)) (.acons (.cst (.int 1)) .anil)))) .anil)))) .anil)))) (.acons (.cal 20 (.acons (.cst (.int 7)) (.acons (.cst (.int 2)) (.acons (.tup (.acons (.tup (.acons (.cst (.int 3)) (.acons (.cst (.int 1)) .anil))) .anil)) .anil)))) (.acons (.cal 20 (.acons (.cst (.int 2)) (.acons (.cst (.int 2)) (.acons (.tup .anil) .anil)))) (.acons (.cal 20 (.acons (.cst (.int 5)) (.acons (.cst (.int 1)) (.acons (.tup (.acons (.tup (.acons (.cst (.int 4)) .anil)) .anil)) .anil)))) .anil))))))
def l3 : I := (.sIf (.cmp .ne (.var 2) (.lst (.acons (.tup (.acons (.tup (.acons (.cst (.int 1)) (.acons (.cst (.int 0)) (.acons (.cst (.int 1)) .anil)))) (.acons (.tup (.acons (.cst (.int 0)) (.acons (.cst (.int 1)) (.acons (.cst (.int 1)) .anil)))) .anil))) (.acons (.tup (.acons (.tup (.acons (.cst (.int 1)) (.acons (.cst (.int 5)) .anil))) .anil)) (.acons (.tup .anil) (.acons (.tup (.acons (.tup (.acons (.cst (.int 1)) .anil)) .anil)) .anil)))))) (.sCons (.sRet (.cst (.bl false))) .sNil) .sNil)
def l4 : I := (.sRet (.and (.cal 22 (.acons (.cst (.int 3)) (.acons (.cst (.int 3)) (.acons (.tup (.acons (.tup (.acons (.cst (.int 1)) (.acons (.cst (.int 0)) (.acons (.cst (.int 1)) .anil)))) (.acons (.tup (.acons (.cst (.int 0)) (.acons (.cst (.int 1)) (.acons (.cst (.int 1)) .anil)))) .anil))) (.acons (.tup (.acons (.cst (.int 1)) (.acons (.cst (.int 1)) (.acons (.cst (.int 2)) .anil)))) .anil))))) (.one (.not (.cal 21 (.acons (.cst (.int 2)) (.acons (.cst (.int 2)) (.acons (.tup (.acons (.tup (.acons (.cst (.int 1)) (.acons (.cst (.int 1)) .anil))) (.acons (.tup (.acons (.cst (.int 0)) (.acons (.cst (.int 1)) .anil))) .anil))) .anil))))))))
theorem b36_eqL : b36 = (.sCons l1 (.sCons l2 (.sCons l3 (.sCons l4 .sNil)))) := rfl
def redB (p : Int) (w : Nat) (B : List Row) : Bool :=
  (B.all fun r => decide (r.length = w) && (r.all fun x => decide (0 ≤ x) && decide (x < p)) && decide (at_ r (ld r) = 1)) && decide (B.Pairwise fun r s => ld r < ld s ∧ at_ r (ld s) = 0)
theorem red_of {p : Int} {w : Nat} {B : List Row} (h : redB p w B = true) : Red p w B := by
  unfold redB at h
  rw [Bool.and_eq_true] at h
  obtain ⟨h1, h2⟩ := h
  have h1 := List.all_eq_true.mp h1
  refine ⟨fun r hr => ?_, fun r hr => ?_, of_decide_eq_true h2⟩
  · have := h1 r hr
    simp only [Bool.and_eq_true, decide_eq_true_eq] at this
    obtain ⟨⟨a, b⟩, c⟩ := this
    refine ⟨a, fun x hx => ?_⟩
    have := List.all_eq_true.mp b x hx
    simp only [Bool.and_eq_true, decide_eq_true_eq] at this
    exact this
  · have := h1 r hr
    simp only [Bool.and_eq_true, decide_eq_true_eq] at this
    exact this.2
/-! lists of tables -/
def pyT (S : List Row) : PyData := .tuple (S.map pyR)
theorem mapO_ltb (h : Hh) (n : Nat) (L : List (List Row)) : mapO (py h (n + 3)) (L.map tb) = some (L.map pyT) := by
  induction L with
  | nil => rfl
  | cons x xs ih =>
    show (match py h (n + 3) (tb x) with | some p => (match mapO (py h (n + 3)) (xs.map tb) with | some ps => some (p :: ps) | none => none) | none => none) = _
    rw [ih, py_tb]
    rfl
theorem lay_ltb (L : List (List Row)) : PyData.canLayAll0 (L.map pyT) = true := by
  induction L with
  | nil => unfold PyData.canLayAll0; rfl
  | cons x xs ih =>
    rw [List.map_cons]
    unfold PyData.canLayAll0
    rw [ih]
    unfold pyT PyData.canLay0
    rw [lay_rows]
    rfl
theorem eqv_ltb : ∀ (L M : List (List Row)), PyData.eqvAll (L.map pyT) (M.map pyT) = decide (L = M)
  | [], [] => by unfold PyData.eqvAll; rfl
  | [], y :: ys => by rw [List.map_cons]; unfold PyData.eqvAll; rfl
  | x :: xs, [] => by rw [List.map_cons]; unfold PyData.eqvAll; rfl
  | x :: xs, y :: ys => by
    rw [List.map_cons, List.map_cons]
    unfold PyData.eqvAll
    rw [eqv_ltb xs ys]
    unfold pyT PyData.eqv
    rw [eqv_rows]
    by_cases h : x = y
    · subst h; simp
    · simp [h]
theorem pyEq_ltb {h : Hh} {a b : Nat} {L M : List (List Row)} (e : h[a]? = some (L.map tb)) (e2 : h[b]? = some (M.map tb)) : pyEq h (.ptr a) (.ptr b) = some (decide (L = M)) := by
  have q : ∀ (a : Nat) (L : List (List Row)), h[a]? = some (L.map tb) → py h 20 (.ptr a) = some (.list (L.map pyT)) := fun a L e => by
    show (match h[a]? with | some ds => (match mapO (py h 19) ds with | some ps => some (PyData.list ps) | none => none) | none => none) = _
    rw [e]
    dsimp only
    rw [mapO_ltb h 16]
  unfold pyEq
  rw [q a L e, q b M e2]
  dsimp only
  have l : ∀ L : List (List Row), PyData.canLay0 (.list (L.map pyT)) = true := fun L => by
    unfold PyData.canLay0
    exact lay_ltb L
  rw [l, l, ← eqv_ltb]
  unfold PyData.eqv
  rfl
def rwsB (p : Int) (w : Nat) (B : List Row) : Bool := B.all fun r => decide (r.length = w) && (r.all fun x => decide (0 ≤ x) && decide (x < p))
theorem rws_of {p : Int} {w : Nat} {B : List Row} (h : rwsB p w B = true) : Rws p w B := fun r hr => by
  have h1 := List.all_eq_true.mp h r hr
  simp only [Bool.and_eq_true, decide_eq_true_eq] at h1
  obtain ⟨a, b⟩ := h1
  refine ⟨a, fun x hx => ?_⟩
  have := List.all_eq_true.mp b x hx
  simp only [Bool.and_eq_true, decide_eq_true_eq] at this
  exact this
theorem tK2 (a b : Int) (h : Hh) : tupK [.int a, .int b] h = .ok (tr [a, b]) h := rfl
theorem tK3 (a b c : Int) (h : Hh) : tupK [.int a, .int b, .int c] h = .ok (tr [a, b, c]) h := rfl
theorem tT2 (a b : Row) (h : Hh) : tupK [tr a, tr b] h = .ok (tb [a, b]) h := rfl
theorem lS1 (a : D) (h : Hh) : lstK [a] h = newL h [a] := rfl
theorem lS2 (a b : D) (h : Hh) : lstK [a, b] h = newL h [a, b] := rfl
theorem lS3 (a b c : D) (h : Hh) : lstK [a, b, c] h = newL h [a, b, c] := rfl
def w1 : I := (.sCons (.sIf (.not (.tv (.cal 35 (.acons (.cal 23 (.acons (.var 0) (.acons (.var 1) .anil))) .anil)))) (.sCons (.sRet (.cst (.bl false))) .sNil) .sNil) .sNil)
theorem l1_eq : l1 = .sFor (.gv 1) (.iR (.acons (.blt .max2 (.acons (.cst (.int 1)) (.acons (.blt .min2 (.acons (.cst (.int 2)) (.acons (.blt .len (.acons (.var 0) .anil)) .anil))) .anil))) .anil)) w1 := rfl
theorem g1 (ns : List Int) (h : Hh) (m : Nat) : ∃ v : D × Hh, ev P (m + 220) l1 [.frl (intL ns), .una, .una] h = .nx [.frl (intL ns), v.1, .una] v.2 := by
  obtain ⟨N, hN, eN⟩ : ∃ N : Nat, N ≤ 2 ∧ (if (1 : Int) < (if (ns.length : Int) < 2 then (ns.length : Int) else 2) then (if (ns.length : Int) < 2 then (ns.length : Int) else 2) else 1) = (N : Int) := by
    by_cases c1 : (ns.length : Int) < 2
    · simp only [c1, if_true]
      by_cases c2 : (1 : Int) < (ns.length : Int)
      · exact ⟨ns.length, by omega, by simp only [c2, if_true]⟩
      · exact ⟨1, by omega, by simp only [c2, if_false]; rfl⟩
    · simp only [c1, if_false]
      exact ⟨2, by omega, by decide⟩
  obtain ⟨σ', h', e, v, e1⟩ := loopF_inv (s := .rg 0 1 N) (f := forT P (m + 219) (.gv 1) w1)
    (fun i σ hh => ∃ v, σ = [.frl (intL ns), v, .una]) N
    (fun i σ hh hi ⟨v, e⟩ => by
      subst e
      obtain ⟨k, e2⟩ := r_pot ns i hh
      obtain ⟨k', e3⟩ := r_right k (a := hh.length) (h := hh ++ [kl k]) (by rw [h_get0]; rfl)
      refine ⟨_, _, (hh ++ [kl k]).set hh.length (kl k'), src_rgi hi, .inl ?_, .int (i : Int), rfl⟩
      simp -implicitDefEqProofs [w1, e2, e3])
    (fun _ _ _ => src_end) turns 0 _ h (by unfold turns; omega) (Nat.zero_le _) ⟨.una, rfl⟩
  refine ⟨(v, h'), ?_⟩
  rw [l1_eq]
  simp -implicitDefEqProofs [bi_len (x := .frl (intL ns)) rfl]
  rw [eN, rngK1 (by omega)]
  simp -implicitDefEqProofs
  rw [e, e1]
theorem P1 (m : Nat) (h : Hh) {p : Int} {w : Nat} {S D : List Row} (hp : Pr p) (w0 : 0 < w) (hw : w ≤ 100) (hS : rwsB p w S = true) (sl : S.length ≤ 200) (e : redd p (iv p) S = D) : callF P (m + 140) 20 [.int p, .int (w : Int), tb S] h = .ok (tb D) h := by
  have := r_spaceof (m + 40) hp w0 hw (rws_of hS) sl h
  rw [e] at this
  exact this
theorem P2 (m : Nat) (h : Hh) : callF P (m + 140) 22 [.int 3, .int 3, tb [[1, 0, 1], [0, 1, 1]], tr [1, 1, 2]] h = .ok (.bl true) h := by
  have := r_hold (m + 50) (p := 3) (.inr (.inl rfl)) (w := 3) (by decide) (by decide) (B := [[1, 0, 1], [0, 1, 1]]) (red_of (by decide +kernel)) (v := [1, 1, 2]) (rws_of (B := [[1, 1, 2]]) (by decide +kernel) _ (List.mem_cons_self ..)) h
  rw [show decide (rest 3 [[1, 0, 1], [0, 1, 1]] [1, 1, 2] = zr 3) = true by decide +kernel] at this
  exact this
theorem P3 (m : Nat) (h : Hh) : callF P (m + 140) 21 [.int 2, .int 2, tb [[1, 1], [0, 1]]] h = .ok (.bl false) h := by
  obtain ⟨n1, n2⟩ := near_tb (p := 2) (w := 2) (D := [[1, 1], [0, 1]]) (rws_of (by decide +kernel)) (by decide) (by decide)
  have := g_isspace (m + 60) (p := 2) (.inl rfl) (w := 2) (by decide) (by decide) (tb [[1, 1], [0, 1]]) n1 n2 h
  rw [show spB 2 2 (tb [[1, 1], [0, 1]]) = false by decide +kernel] at this
  exact this
def X2 : List (List Row) := [[[1, 0, 1], [0, 1, 1]], [[1, 5]], [], [[1]]]
theorem a1 (m : Nat) (h : Hh) : callF P (m + 140) 20 [.int 3, .int 3, tb [[1, 2, 0], [2, 1, 0], [0, 1, 1]]] h = .ok (tb [[1, 0, 1], [0, 1, 1]]) h := P1 m h (p := 3) (w := 3) (.inr (.inl rfl)) (by decide) (by decide) (by decide +kernel) (by decide) (by decide +kernel)
theorem a2 (m : Nat) (h : Hh) : callF P (m + 140) 20 [.int 7, .int 2, tb [[3, 1]]] h = .ok (tb [[1, 5]]) h := P1 m h (p := 7) (w := 2) (.inr (.inr (.inr rfl))) (by decide) (by decide) (by decide +kernel) (by decide) (by decide +kernel)
theorem a3 (m : Nat) (h : Hh) : callF P (m + 140) 20 [.int 2, .int 2, tb []] h = .ok (tb []) h := P1 m h (p := 2) (w := 2) (.inl rfl) (by decide) (by decide) (by decide +kernel) (by decide) (by decide +kernel)
theorem a4 (m : Nat) (h : Hh) : callF P (m + 140) 20 [.int 5, .int 1, tb [[4]]] h = .ok (tb [[1]]) h := P1 m h (p := 5) (w := 1) (.inr (.inr (.inl rfl))) (by decide) (by decide) (by decide +kernel) (by decide) (by decide +kernel)
theorem tK1 (a : Int) (h : Hh) : tupK [.int a] h = .ok (tr [a]) h := rfl
theorem tT3 (a b c : Row) (h : Hh) : tupK [tr a, tr b, tr c] h = .ok (tb [a, b, c]) h := rfl
theorem g2 (m : Nat) (u0 u1 u2 : D) (h : Hh) : ev P (m + 210) l2 [u0, u1, u2] h = .nx [u0, u1, .ptr h.length] (h ++ [X2.map tb]) := by
  have nl : ∀ hh : Hh, lstK [tb [[1, 0, 1], [0, 1, 1]], tb [[1, 5]], tb [], tb [[1]]] hh = newL hh (X2.map tb) := fun _ => rfl
  generalize X2.map tb = Z at *
  simp -implicitDefEqProofs [l2, tK3, tK2, tK1, tupK_nil, tb_nil, tT1, tT3, a1, a2, a3, a4, nl, newL0]
theorem g3 (m : Nat) (u0 u1 : D) (h : Hh) : ev P (m + 210) l3 [u0, u1, .ptr h.length] (h ++ [X2.map tb]) = .nx [u0, u1, .ptr h.length] (h ++ [X2.map tb, X2.map tb]) := by
  have pe := pyEq_ltb (h := h ++ [X2.map tb, X2.map tb]) (a := h.length) (b := h.length + 1) (L := X2) (M := X2) (by rw [h_get0]; rfl) (by rw [h_get]; rfl)
  have nl : ∀ hh : Hh, lstK [tb [[1, 0, 1], [0, 1, 1]], tb [[1, 5]], tb [], tb [[1]]] hh = newL hh (X2.map tb) := fun _ => rfl
  generalize X2.map tb = Z at *
  simp -implicitDefEqProofs [l3, tK3, tK2, tK1, tupK_nil, tb_nil, tT1, tT2, nl, newL1, pe]
theorem g4 (m : Nat) (u0 u1 u2 : D) (h : Hh) : ev P (m + 210) l4 [u0, u1, u2] h = .rt (.bl true) h := by
  simp -implicitDefEqProofs [l4, tK3, tK2, tT2, P2, P3]
theorem r_law (n : Nat) (ns : List Int) : ∃ h', callF P (n + 225) 36 [.frl (intL ns)] [] = .ok (.bl true) h' := by
  obtain ⟨⟨v1, H1⟩, h1⟩ := g1 ns [] (n + 4)
  have h1 : ev P (n + 224) l1 [.frl (intL ns), .una, .una] [] = .nx [.frl (intL ns), v1, .una] H1 := h1
  have h2 := fun m => g2 m (.frl (intL ns)) v1 .una H1
  have h3 := fun m => g3 m (.frl (intL ns)) v1 H1
  have h4 := fun m => g4 m (.frl (intL ns)) v1 (.ptr H1.length) (H1 ++ [X2.map tb, X2.map tb])
  refine ⟨List.take 0 (H1 ++ [X2.map tb, X2.map tb]), ?_⟩
  rw [callF_at P fs36 rfl, b36_eqL]
  simp -implicitDefEqProofs only [ev_cons, k_nx, k_rt, h1, h2, h3, h4, called_rt, back_bl, List.replicate, List.cons_append, List.nil_append, Nat.reduceSub, List.length_nil]
theorem law_runs (ns : List Int) : ∃ h', callF lw.P 225 36 [.frl (ns.map D.int)] [] = .ok (.bl true) h' := r_law 0 ns
end K0
-- H0b
open PySem PySem.W PySem.Calls PyProof.Rows
theorem PySem.Challenge.cw_tablerings_k00_whole_spaces_and_their_ba_holds : PySem.Challenge.rw_tablerings_k00_whole_spaces_and_their_ba.Holds := by
  w_on; o_law
  have ge : (HandSHeadRun.topDef K0.RW.prog 49).name = ("law" : PySem.Str) := by kernel_rfl
  refine HandSHeadRun.head_any (r := K0.RW) (q := view K0.RW.prog [49]) (H := K0.hkE) (ob := K0.obE)
    (M := 6000) (loose := K0.los) (d := HandSHeadRun.topDef K0.RW.prog 49) (kwd := [])
    K0.obE_eq (by kernel_rfl) (fun s => by kernel_rfl) K0.runE (by kernel_rfl) (by kernel_rfl)
    (by kernel_rfl) (by rfl)
    K0.ws
    (by decide +kernel)
    ⟨rfl, rfl, rfl, rfl, rfl, by decide +kernel⟩ ?hw ?hc
  case hw => w_witness2
  case hc =>
    refine LamX.walk_ofTsE (l := PySem.Challenge.rw_tablerings_k00_whole_spaces_and_their_ba) (n := 63) (k := 225 + 1) (x := "_law_script")
      (CX := fun _ => L2.CX0) rfl (by decide) (by kernel_rfl) ⟨rfl, by decide, by decide⟩ ?F (fun _ _ _ _ _ z => z)
    intro w mg fa h Y G hm0
    have ha : mg ("law" : PySem.Str) = some (.ref fa) := ge ▸ hm0
    exact Ev.Lw.at_law Y G K0.okRs (f := 36) rfl rfl (x := "_law_script") rfl ha 225 (fun ns _ => K0.law_runs ns)
