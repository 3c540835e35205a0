import PyProof.Rows.All
import Wide.All
import OpenK.AllK
import Wide.FinOn
import HandS.ForMost
import HandS.Defaults
import HandS.Wide
import HandS.TupAny
import HandS.TupMul
import HandS.Flow
import HandS.Style
import HandS.Iter
import HandS.Zip
import HandS.Conv
import HandS.IsInst
import KE.GoesMore
import KE.GoesZip
import KE.GoesEnum
import HandS.Star
import HandS.Exc
import HandS.Head1
import HandS.HeadHook2
import KE.KStateDown
import HandS.Head0
import HandS.Head2
import HandS.HeadEnd
import HandS.HeadHook1
import PySem.Challenge.RW_tablerings_k04_whole_polynomials_reckone
-- EvA
set_option Elab.async false
set_option linter.all false
set_option maxRecDepth 100000
/-! EvA: a small evaluator over plain data. -/
namespace Ev
open PySem
/-- a value -/
inductive D where
  | una
  | non | bl (b : Bool) | int (i : Int) | str (x : Str) | ty (n : String)
  | tup (ds : List D)
  | frl (ds : List D)
  | fn (f : Nat)
  | ptr (a : Nat)
  | mtp (ds : List D)
  | emp
  deriving Inhabited
abbrev Hh := List (List D)
abbrev Sg := List D
inductive BOp where | add | sub | mul | mod | fdiv | pow
  deriving DecidableEq
inductive COp where | eq | ne | lt | le | gt | ge | inn | nin | isN | notN
  deriving DecidableEq
inductive Bi where | len | int | abs | max2 | min2 | sum | any | all | tuple | list | isIntB | isBoolB | isTupB
  deriving DecidableEq
inductive I where
  | var (i : Nat) | cst (d : D) | glb (k : Nat) | gdx (k : Nat) (e : I)
  | tup (a : I) | lst (a : I)
  | anil | acons (e r : I) | astar (e r : I)
  | bin (o : BOp) (a b : I) | neg (a : I)
  | cmp (o : COp) (a b : I) | chn (o p : COp) (a b c : I)
  | and (a b : I) | or (a b : I) | one (a : I) | tv (a : I) | po (a : I) | not (a : I) | ife (t a b : I)
  | dct
  | ix (a i : I) | sl (a lo hi : I) | pno
  | cal (f : Nat) (a : I) | blt (b : Bi) (a : I) | isi (b : Bi) (e : I)
  | app (o e : I) | pop (o : I) | ext (o e : I)
  | lc (tg it ifs e : I) (own : List Nat)
  | iS (e : I) | iR (a : I) | iE (e : I) | iZ (a b : I)
  | gv (i : Nat) | gt (g : I) | gnil | gcons (g r : I) | gx (o i : I)
  | sAsg (g e : I) | sPar2 (i j : Nat) (a b : I) | sPar3 (i j k : Nat) (a b c : I)
  | sAug (i : Nat) (o : BOp) (e : I) | sAugX (o i : I) (op : BOp) (e : I)
  | sExp (e : I) | sFor (tg it b : I) | sWh (t b : I) | sIf (t a b : I) | sRet (e : I) | sRetN
  | sNever | sPass | sBrk | sCnt | sNil | sCons (s r : I)
/-- a source that is walked -/
inductive Src where
  | sq (d : D) | rg (lo c : Int) (n : Nat) | en (d : D) | zp (d e : D)
structure Xc where
  cls : Str
  arg : D
inductive R where
  | ok (d : D) (h : Hh)
  | oks (ds : List D) (h : Hh)
  | osr (s : Src) (h : Hh)
  | nx (σ : Sg) (h : Hh) | bk (σ : Sg) (h : Hh) | ct (σ : Sg) (h : Hh) | rt (d : D) (h : Hh)
  | no
structure Fd where
  ar : Nat
  sz : Nat
  body : I
/-- a program: its defs, its constants, its dicts -/
structure Pg where
  fs : List Fd
  cs : List D
  ds : List (List (Int × D))
def line : Nat := 16777216
def isPtr : D → Bool
  | .ptr _ => true
  | .mtp _ => true
  | .una => true
  | _ => false
/-- a tuple of such items -/
def mkT (ds : List D) : D := match ds.any isPtr with
  | true => .mtp ds
  | false => .tup ds
/-- the items of a list or a tuple -/
def itemsOf (h : Hh) : D → Option (List D)
  | .tup ds => some ds
  | .mtp ds => some ds
  | .frl ds => some ds
  | .ptr a => h[a]?
  | _ => none
def sqAt (h : Hh) (d : D) (i : Nat) : Option (Option D) := match itemsOf h d with
  | some ds => some ds[i]?
  | none => none
def srcAt (h : Hh) : Src → Nat → Option (Option D)
  | .sq d, i => sqAt h d i
  | .rg lo c n, i => match Nat.blt i n with
    | true => some (some (.int (lo + (i : Int) * c)))
    | false => some none
  | .en d, i => match itemsOf h d with
    | some ds => match ds[i]? with
      | some x => some (some (mkT [.int (i : Int), x]))
      | none => match Nat.beq i ds.length with
        | true => some none
        | false => none
    | none => none
  | .zp d e, i => match itemsOf h d, itemsOf h e with
    | some ds, some es => match ds[i]?, es[i]? with
      | some x, some y => some (some (mkT [x, y]))
      | _, _ => match Nat.ble i ds.length && Nat.ble i es.length with
        | true => some none
        | false => none
    | _, _ => none
def tru (h : Hh) : D → Option Bool
  | .non => some false
  | .bl b => some b
  | .int i => some (i != 0)
  | .tup ds => some !ds.isEmpty
  | .mtp ds => some !ds.isEmpty
  | .frl ds => some !ds.isEmpty
  | .ptr a => match h[a]? with
    | some ds => some !ds.isEmpty
    | none => none
  | _ => none
def mapO (f : D → Option PyData) : List D → Option (List PyData)
  | [] => some []
  | d :: ds => match f d with
    | some p => match mapO f ds with
      | some ps => some (p :: ps)
      | none => none
    | none => none
/-- the data that a value is, nested at most so deep -/
def py (h : Hh) : Nat → D → Option PyData
  | 0, _ => none
  | n + 1, d => match d with
    | .non => some .none
    | .bl b => some (.bool b)
    | .int i => some (.int i)
    | .str x => some (.str x)
    | .tup ds => match mapO (py h n) ds with
      | some ps => some (.tuple ps)
      | none => none
    | .mtp ds => match mapO (py h n) ds with
      | some ps => some (.tuple ps)
      | none => none
    | .frl ds => match mapO (py h n) ds with
      | some ps => some (.list ps)
      | none => none
    | .ptr a => match h[a]? with
      | some ds => match mapO (py h n) ds with
        | some ps => some (.list ps)
        | none => none
      | none => none
    | _ => none
def pyEq (h : Hh) (x y : D) : Option Bool := match py h 20 x, py h 20 y with
  | some p, some q => match p.canLay0 && q.canLay0 with
    | true => some (PyData.eqv p q)
    | false => none
  | _, _ => none
def flatD : D → Bool
  | .non => true
  | .bl _ => true
  | .int _ => true
  | .str _ => true
  | _ => false
/-- == of flat things -/
def flatE : D → D → Bool
  | .non, .non => true
  | .bl a, .bl b => a == b
  | .bl a, .int b => (if a then 1 else 0) == b
  | .int a, .bl b => a == (if b then 1 else 0)
  | .int a, .int b => a == b
  | .str a, .str b => a == b
  | _, _ => false
def smallI (i : Int) : Bool := Nat.blt i.natAbs (2 ^ 64)
def mulOk (i j : Int) : Bool := smallI i || smallI j
def powOk (i j : Int) : Bool := match j with
  | .ofNat n => Nat.ble n 1000 && Nat.blt i.natAbs (2 ^ 1000)
  | .negSucc _ => false
def posI (j : Int) : Bool := match j with
  | .ofNat (_ + 1) => true
  | _ => false
def divOk (j : Int) : Bool := posI j && Nat.blt j.natAbs (2 ^ 8000)
def repO (ds : List D) (k : Int) : Option (List D) := match Nat.ble (ds.length * k.toNat) line && Nat.blt k.natAbs (2 ^ 62) with
  | true => some (List.replicate k.toNat ds).flatten
  | false => none
def catO (ds es : List D) : Option (List D) := match Nat.ble (ds.length + es.length) line with
  | true => some (ds ++ es)
  | false => none
def newL (h : Hh) (ds : List D) : R := .ok (.ptr h.length) (h ++ [ds])
def binop (o : BOp) (x y : D) (h : Hh) : R := match o with
  | .add => match x, y with
    | .int i, .int j => .ok (.int (i + j)) h
    | .tup ds, .tup es => match catO ds es with
      | some fs => .ok (.tup fs) h
      | none => .no
    | .ptr a, .ptr b => match h[a]?, h[b]? with
      | some ds, some es => match catO ds es with
        | some fs => newL h fs
        | none => .no
      | _, _ => .no
    | _, _ => .no
  | .sub => match x, y with
    | .int i, .int j => .ok (.int (i - j)) h
    | _, _ => .no
  | .mul => match x, y with
    | .int i, .int j => match mulOk i j with
      | true => .ok (.int (i * j)) h
      | false => .no
    | .tup ds, .int k => match repO ds k with
      | some fs => .ok (.tup fs) h
      | none => .no
    | .ptr a, .int k => match h[a]? with
      | some ds => match repO ds k with
        | some fs => newL h fs
        | none => .no
      | none => .no
    | _, _ => .no
  | .mod => match x, y with
    | .int i, .int j => match posI j with
      | true => .ok (.int (i % j)) h
      | false => .no
    | _, _ => .no
  | .fdiv => match x, y with
    | .int i, .int j => match divOk j with
      | true => .ok (.int (i / j)) h
      | false => .no
    | _, _ => .no
  | .pow => match x, y with
    | .int i, .int j => match powOk i j with
      | true => .ok (.int (i ^ j.toNat)) h
      | false => .no
    | _, _ => .no
/-- what stands behind an augmented assignment -/
def augop (o : BOp) (x y : D) (h : Hh) : R := match x, y with
  | .int i, .int j => match o with
    | .pow => .no
    | o => binop o (.int i) (.int j) h
  | _, _ => .no
def bR (b : Bool) (h : Hh) : R := .ok (.bl b) h
def oB (o : Option Bool) (f : Bool → Bool) (h : Hh) : R := match o with
  | some b => .ok (.bl (f b)) h
  | none => .no
def intI (x y : D) (f : Int → Int → Bool) (h : Hh) : R := match x, y with
  | .int i, .int j => .ok (.bl (f i j)) h
  | _, _ => .no
def isNon : D → Option Bool
  | .non => some true
  | .una => none
  | _ => some false
def memH (h : Hh) (x y : D) : Option Bool := match flatD x, itemsOf h y with
  | true, some ds => match ds.all flatD with
    | true => some (ds.any fun y => flatE y x)
    | false => none
  | _, _ => none
def cmpop (o : COp) (x y : D) (h : Hh) : R := match o with
  | .eq => oB (pyEq h x y) (fun b => b) h
  | .ne => oB (pyEq h x y) (fun b => !b) h
  | .lt => intI x y (fun i j => decide (i < j)) h
  | .le => intI x y (fun i j => decide (i ≤ j)) h
  | .gt => intI x y (fun i j => decide (j < i)) h
  | .ge => intI x y (fun i j => decide (j ≤ i)) h
  | .inn => oB (memH h x y) (fun b => b) h
  | .nin => oB (memH h x y) (fun b => !b) h
  | .isN => match y with
    | .non => oB (isNon x) (fun b => b) h
    | _ => .no
  | .notN => match y with
    | .non => oB (isNon x) (fun b => !b) h
    | _ => .no
def intsD : List D → Option (List Int)
  | [] => some []
  | .int i :: ds => match intsD ds with
    | some is => some (i :: is)
    | none => none
  | _ => none
def bls : List D → Option (List Bool)
  | [] => some []
  | .bl b :: ds => match bls ds with
    | some bs => some (b :: bs)
    | none => none
  | _ => none
def known : D → Bool
  | .una => false
  | .fn _ => false
  | .ty _ => false
  | .frl _ => false
  | _ => true
def tyI : D → Bool
  | .int _ => true
  | .bl _ => true
  | _ => false
def tyB : D → Bool
  | .bl _ => true
  | _ => false
def tyT : D → Bool
  | .tup _ => true
  | .mtp _ => true
  | _ => false
def builtin (b : Bi) (vs : List D) (h : Hh) : R := match b with
  | .len => match vs with
    | [x] => match itemsOf h x with
      | some ds => .ok (.int ds.length) h
      | none => .no
    | _ => .no
  | .int => match vs with
    | [.int i] => .ok (.int i) h
    | [.bl b] => .ok (.int (if b then 1 else 0)) h
    | _ => .no
  | .abs => match vs with
    | [.int i] => .ok (.int (if i < 0 then -i else i)) h
    | _ => .no
  | .max2 => match vs with
    | [.int i, .int j] => .ok (.int (if j > i then j else i)) h
    | _ => .no
  | .min2 => match vs with
    | [.int i, .int j] => .ok (.int (if j < i then j else i)) h
    | _ => .no
  | .sum => match vs with
    | [.ptr a] => match h[a]? with
      | some ds => match intsD ds with
        | some is => .ok (.int is.sum) h
        | none => .no
      | none => .no
    | _ => .no
  | .any => match vs with
    | [.ptr a] => match h[a]? with
      | some ds => match bls ds with
        | some bs => .ok (.bl (bs.any id)) h
        | none => .no
      | none => .no
    | _ => .no
  | .all => match vs with
    | [.ptr a] => match h[a]? with
      | some ds => match bls ds with
        | some bs => .ok (.bl (bs.all id)) h
        | none => .no
      | none => .no
    | _ => .no
  | .tuple => match vs with
    | [.ptr a] => match h[a]? with
      | some ds => .ok (mkT ds) h
      | none => .no
    | [.tup ds] => .ok (.tup ds) h
    | _ => .no
  | .list => match vs with
    | [x] => match itemsOf h x with
      | some ds => newL h ds
      | none => .no
    | _ => .no
  | .isIntB => match vs with
    | [x] => match known x with
      | true => .ok (.bl (tyI x)) h
      | false => .no
    | _ => .no
  | .isBoolB => match vs with
    | [x] => match known x with
      | true => .ok (.bl (tyB x)) h
      | false => .no
    | _ => .no
  | .isTupB => match vs with
    | [x] => match known x with
      | true => .ok (.bl (tyT x)) h
      | false => .no
    | _ => .no
/-- the place of an index -/
def ixN (n : Nat) : Int → Option Nat
  | .ofNat k => match Nat.blt k n with
    | true => some k
    | false => none
  | .negSucc k => match Nat.blt k n with
    | true => some (n - (k + 1))
    | false => none
def index (x i : D) (h : Hh) : R := match i with
  | .int k => match itemsOf h x with
    | some ds => match ixN ds.length k with
      | some j => match ds[j]? with
        | some d => .ok d h
        | none => .no
      | none => .no
    | none => .no
  | _ => .no
/-- a slice's end: none, or an int -/
def part : D → Option (Option Int)
  | .non => some none
  | .int i => some (some i)
  | _ => none
def clip (n d : Nat) : Option Int → Nat
  | none => d
  | some (.ofNat k) => min k n
  | some (.negSucc k) => n - (k + 1)
def cut (ds : List D) (lo hi : Option Int) : List D := (ds.drop (clip ds.length 0 lo)).take (clip ds.length ds.length hi - clip ds.length 0 lo)
def slice (x lo hi : D) (h : Hh) : R := match part lo, part hi with
  | some l, some u => match x with
    | .tup ds => .ok (.tup (cut ds l u)) h
    | .ptr a => match h[a]? with
      | some ds => newL h (cut ds l u)
      | none => .no
    | .frl ds => newL h (cut ds l u)
    | _ => .no
  | _, _ => .no
def setAt (x i d : D) (h : Hh) : Option Hh := match x, i with
  | .ptr a, .int k => match h[a]? with
    | some ds => match ixN ds.length k with
      | some j => match isPtr d with
        | true => none
        | false => some (h.set a (ds.set j d))
      | none => none
    | none => none
  | _, _ => none
def isUna : D → Bool
  | .una => true
  | _ => false
def getV (σ : Sg) (i : Nat) (h : Hh) : R := match σ[i]? with
  | some d => match isUna d with
    | true => .no
    | false => .ok d h
  | none => .no
def lookI (k : Int) : List (Int × D) → Option D
  | [] => none
  | (j, d) :: r => match decide (j = k) with
    | true => some d
    | false => lookI k r
def wipeD (σ : Sg) : List Nat → Sg
  | [] => σ
  | v :: vs => (wipeD σ vs).set v .una
/-- what follows with a value -/
def R.on (r : R) (f : D → Hh → R) : R := match r with
  | .ok d h => f d h
  | _ => .no
def R.ons (r : R) (f : List D → Hh → R) : R := match r with
  | .oks ds h => f ds h
  | _ => .no
def R.onsr (r : R) (f : Src → Hh → R) : R := match r with
  | .osr s h => f s h
  | _ => .no
def R.onb (r : R) (f : Bool → Hh → R) : R := match r with
  | .ok d h => match tru h d with
    | some b => f b h
    | none => .no
  | _ => .no
def R.onx (r : R) (f : Sg → Hh → R) : R := match r with
  | .nx σ h => f σ h
  | .rt d h => .rt d h
  | .bk σ h => .bk σ h
  | .ct σ h => .ct σ h
  | _ => .no
/-- a for's turns -/
def loopF (s : Src) (f : D → Sg → Hh → R) : Nat → Nat → Sg → Hh → R
  | 0, _, _, _ => .no
  | m + 1, i, σ, h => match srcAt h s i with
    | some (some d) => match f d σ h with
      | .nx σ' h' => loopF s f m (i + 1) σ' h'
      | .ct σ' h' => loopF s f m (i + 1) σ' h'
      | .bk σ' h' => .nx σ' h'
      | .rt d h' => .rt d h'
      | _ => .no
    | some none => .nx σ h
    | none => .no
def loopW (t : Sg → Hh → R) (f : Sg → Hh → R) : Nat → Sg → Hh → R
  | 0, _, _ => .no
  | m + 1, σ, h => (t σ h).onb fun b h1 => match b with
    | true => match f σ h1 with
      | .nx σ' h' => loopW t f m σ' h'
      | .ct σ' h' => loopW t f m σ' h'
      | .bk σ' h' => .nx σ' h'
      | .rt d h' => .rt d h'
      | _ => .no
    | false => .nx σ h1
/-- a comprehension's turns: f gives an item, or (nx) none -/
def loopC (s : Src) (f : D → Hh → R) : Nat → Nat → List D → Hh → R
  | 0, _, _, _ => .no
  | m + 1, i, acc, h => match srcAt h s i with
    | some (some d) => match f d h with
      | .ok x h' => loopC s f m (i + 1) (x :: acc) h'
      | .nx _ h' => loopC s f m (i + 1) acc h'
      | _ => .no
    | some none => match Nat.ble acc.length line with
      | true => .oks acc.reverse h
      | false => .no
    | none => .no
def turns : Nat := 33554432
/-- behind a call: what the caller sees of the heap -/
def back (n : Nat) (d : D) (h : Hh) : R := match d with
  | .ptr a => match Nat.blt a n with
    | true => .ok (.ptr a) (h.take n)
    | false => match h[a]? with
      | some ds => match ds.any isPtr with
        | true => .ok (.ptr a) h
        | false => .ok (.ptr n) (h.take n ++ [ds])
      | none => .no
  | .mtp _ => .ok d h
  | .una => .no
  | _ => .ok d (h.take n)
def called (r : R) (n : Nat) : R := match r with
  | .rt d h => back n d h
  | .nx _ h => .ok .non (h.take n)
  | _ => .no
/-- the items of a tuple -/
def tupOf : D → Option (List D)
  | .tup ds => some ds
  | .mtp ds => some ds
  | _ => none
/-- names one behind another -/
def asgs : I → List D → Sg → Hh → R
  | .gnil, ds, σ, h => match ds with
    | [] => .nx σ h
    | _ => .no
  | .gcons g r, ds, σ, h => match g with
    | .gv i => match ds with
      | d :: ds => asgs r ds (σ.set i d) h
      | [] => .no
    | _ => .no
  | _, _, _, _ => .no
/-- a target takes a value -/
def asg (E : I → Sg → Hh → R) (tg : I) (d : D) (σ : Sg) (h : Hh) : R := match tg with
  | .gv i => .nx (σ.set i d) h
  | .gt g => match tupOf d with
    | some ds => asgs g ds σ h
    | none => .no
  | .gx o i => (E o σ h).on fun x h2 => (E i σ h2).on fun y h3 => match setAt x y d h3 with
    | some h4 => .nx σ h4
    | none => .no
  | _ => .no
def entry (fd : Fd) (ds : List D) : Option Sg := match Nat.beq ds.length fd.ar && Nat.ble fd.ar fd.sz with
  | true => some (ds ++ List.replicate (fd.sz - fd.ar) .una)
  | false => none
section
variable (P : Pg)
def ev : Nat → I → Sg → Hh → R
  | 0, _, _, _ => .no
  | n + 1, e, σ, h => match e with
    | .var i => getV σ i h
    | .cst d => .ok d h
    | .glb k => match P.cs[k]? with
      | some d => .ok d h
      | none => .no
    | .gdx k e => (ev n e σ h).on fun x h1 => match x with
      | .int i => match P.ds[k]? with
        | some ks => match lookI i ks with
          | some d => .ok d h1
          | none => .no
        | none => .no
      | _ => .no
    | .dct => .ok .emp h
    | .tup a => (ev n a σ h).ons fun ds h1 => match Nat.ble ds.length line with
      | true => .ok (mkT ds) h1
      | false => .no
    | .lst a => (ev n a σ h).ons fun ds h1 => match Nat.ble ds.length line with
      | true => newL h1 ds
      | false => .no
    | .anil => .oks [] h
    | .acons e r => (ev n e σ h).on fun d h1 => (ev n r σ h1).ons fun ds h2 => .oks (d :: ds) h2
    | .astar e r => (ev n e σ h).on fun d h1 => match itemsOf h1 d with
      | some es => (ev n r σ h1).ons fun ds h2 => .oks (es ++ ds) h2
      | none => .no
    | .bin o a b => (ev n a σ h).on fun x h1 => (ev n b σ h1).on fun y h2 => binop o x y h2
    | .neg a => (ev n a σ h).on fun x h1 => match x with
      | .int i => .ok (.int (-i)) h1
      | _ => .no
    | .cmp o a b => (ev n a σ h).on fun x h1 => (ev n b σ h1).on fun y h2 => cmpop o x y h2
    | .chn o p a b c => (ev n a σ h).on fun x h1 => (ev n b σ h1).on fun y h2 => (cmpop o x y h2).onb fun k h3 => match k with
      | true => (ev n c σ h3).on fun z h4 => cmpop p y z h4
      | false => .ok (.bl false) h3
    | .and a b => (ev n a σ h).on fun x h1 => match x with
      | .bl true => ev n b σ h1
      | .bl false => .ok (.bl false) h1
      | _ => .no
    | .or a b => (ev n a σ h).on fun x h1 => match x with
      | .bl false => ev n b σ h1
      | .bl true => .ok (.bl true) h1
      | _ => .no
    | .one a => ev n a σ h
    | .tv a => ev n a σ h
    | .po a => (ev n a σ h).on fun d h1 => match d with
      | .int i => .ok (.int i) h1
      | _ => .no
    | .not a => (ev n a σ h).onb fun b h1 => .ok (.bl !b) h1
    | .ife t a b => (ev n t σ h).onb fun k h1 => match k with
      | true => ev n a σ h1
      | false => ev n b σ h1
    | .ix a i => (ev n a σ h).on fun x h1 => (ev n i σ h1).on fun y h2 => index x y h2
    | .sl a lo hi => (ev n a σ h).on fun x h1 => (ev n lo σ h1).on fun l h2 => (ev n hi σ h2).on fun u h3 => slice x l u h3
    | .pno => .ok .non h
    | .cal f a => (ev n a σ h).ons fun ds h1 => match P.fs[f]? with
      | some fd => match entry fd ds with
        | some σ' => called (ev n fd.body σ' h1) h1.length
        | none => .no
      | none => .no
    | .blt b a => (ev n a σ h).ons fun ds h1 => builtin b ds h1
    | .isi b e => (ev n e σ h).on fun d h1 => builtin b [d] h1
    | .app o e => (ev n o σ h).on fun x h1 => (ev n e σ h1).on fun y h2 => match x with
      | .ptr a => match h2[a]? with
        | some ds => match Nat.blt ds.length line && !isPtr y with
          | true => .ok .non (h2.set a (ds ++ [y]))
          | false => .no
        | none => .no
      | _ => .no
    | .pop o => (ev n o σ h).on fun x h1 => match x with
      | .ptr a => match h1[a]? with
        | some ds => match ds.getLast? with
          | some d => .ok d (h1.set a ds.dropLast)
          | none => .no
        | none => .no
      | _ => .no
    | .ext o e => (ev n o σ h).on fun x h1 => (ev n e σ h1).on fun y h2 => match x, y with
      | .ptr a, .ptr b => match h2[a]?, h2[b]? with
        | some ds, some es => match es.any isPtr with
          | true => .no
          | false => match catO ds es with
            | some fs => .ok .non (h2.set a fs)
            | none => .no
        | _, _ => .no
      | _, _ => .no
    | .lc tg it ifs e own => (ev n it σ h).onsr fun s h1 =>
      (loopC s (fun d h2 => match asg (ev n) tg d (wipeD σ own) h2 with
        | .nx σ2 h3 => (ev n ifs σ2 h3).onb fun k h4 => match k with
          | true => (ev n e σ2 h4).on fun x h5 => .ok x h5
          | false => .nx σ2 h4
        | _ => .no) turns 0 [] h1).ons fun ds h2 => newL h2 ds
    | .iS e => (ev n e σ h).on fun x h1 => match itemsOf h1 x with
      | some _ => .osr (.sq x) h1
      | none => .no
    | .iR a => (ev n a σ h).ons fun ds h1 => match ds with
      | [.int j] => match Nat.blt j.natAbs (2 ^ 60) with
        | true => .osr (.rg 0 1 j.toNat) h1
        | false => .no
      | [.int i, .int j] => match Nat.blt i.natAbs (2 ^ 60) && Nat.blt j.natAbs (2 ^ 60) with
        | true => .osr (.rg i 1 (j - i).toNat) h1
        | false => .no
      | [.int i, .int j, .int c] => match Nat.blt i.natAbs (2 ^ 60) && Nat.blt j.natAbs (2 ^ 60) && decide (c = -1) with
        | true => .osr (.rg i (-1) (i - j).toNat) h1
        | false => .no
      | _ => .no
    | .iE e => (ev n e σ h).on fun x h1 => match itemsOf h1 x with
      | some _ => .osr (.en x) h1
      | none => .no
    | .iZ a b => (ev n a σ h).on fun x h1 => (ev n b σ h1).on fun y h2 => match itemsOf h2 x, itemsOf h2 y with
      | some _, some _ => .osr (.zp x y) h2
      | _, _ => .no
    | .sAsg g e => (ev n e σ h).on fun d h1 => asg (ev n) g d σ h1
    | .sPar2 i j a b => (ev n a σ h).on fun x h1 => (ev n b σ h1).on fun y h2 => .nx ((σ.set i x).set j y) h2
    | .sPar3 i j k a b c => (ev n a σ h).on fun x h1 => (ev n b σ h1).on fun y h2 => (ev n c σ h2).on fun z h3 => .nx (((σ.set i x).set j y).set k z) h3
    | .sAug i o e => (getV σ i h).on fun x h1 => (ev n e σ h1).on fun y h2 => (augop o x y h2).on fun z h3 => .nx (σ.set i z) h3
    | .sAugX o i op e => (ev n o σ h).on fun x h1 => (ev n i σ h1).on fun y h2 => match x with
      | .ptr a => (index (.ptr a) y h2).on fun u h3 => (ev n e σ h3).on fun v h4 => (augop op u v h4).on fun z h5 => match setAt (.ptr a) y z h5 with
        | some h6 => .nx σ h6
        | none => .no
      | _ => .no
    | .sExp e => (ev n e σ h).on fun _ h1 => .nx σ h1
    | .sFor tg it b => (ev n it σ h).onsr fun s h1 => loopF s (fun d σ1 h2 => (asg (ev n) tg d σ1 h2).onx fun σ2 h3 => ev n b σ2 h3) turns 0 σ h1
    | .sWh t b => loopW (fun σ1 h1 => ev n t σ1 h1) (fun σ1 h1 => ev n b σ1 h1) turns σ h
    | .sIf t a b => (ev n t σ h).onb fun k h1 => match k with
      | true => ev n a σ h1
      | false => ev n b σ h1
    | .sRet e => (ev n e σ h).on fun d h1 => .rt d h1
    | .sRetN => .rt .non h
    | .sNever => .no
    | .sPass => .nx σ h
    | .sBrk => .bk σ h
    | .sCnt => .ct σ h
    | .sNil => .nx σ h
    | .sCons s r => (ev n s σ h).onx fun σ1 h1 => ev n r σ1 h1
    | _ => .no
/-- a call of a def with values -/
def callF (n : Nat) (f : Nat) (ds : List D) (h : Hh) : R := match P.fs[f]? with
  | some fd => match entry fd ds with
    | some σ' => called (ev P n fd.body σ' h) h.length
    | none => .no
  | none => .no
end
end Ev
-- EvB
set_option maxHeartbeats 4000000
set_option autoImplicit false
namespace Ev
open PySem PySem.Spec PyProof.Rows L2
/-- what a value is read against: the written part, where the defs stand -/
structure G where
  K : PySem.W.Frag
  fa : Nat → Addr
def FrL (K : PySem.W.Frag) (H : Hp) (a : Addr) (xs : List V) : Prop :=
  (∃ o, H a = some (.frz o (.lst xs))) ∨
    ∃ (o : Obj) (its : Array Value) (n : Nat), K.lookup a = some o ∧ o.cls = .type "list" ∧ o.dict = none ∧ o.data = .seq its n ∧ its.size ≤ sizeLine ∧ Vals xs its.toList
theorem FrL.seq {K : PySem.W.Frag} {H : Hp} {a : Addr} {xs : List V} (h : FrL K H a xs) : SqL K H a xs := by
  rcases h with ⟨o, h⟩ | h
  · exact .inl (.inr ⟨o, h⟩)
  · exact .inr h
mutual
inductive RepP (g : G) (H : Hp) : D → V → Prop
  | non : RepP g H .non .non
  | bl (b : Bool) : RepP g H (.bl b) (.bl b)
  | int (i : Int) : RepP g H (.int i) (.int i)
  | str (x : Str) : RepP g H (.str x) (.str x)
  | ty (n : String) : RepP g H (.ty n) (.ty n)
  | tup {a : Addr} {vs : List V} {ds : List D} : SqT g.K H a vs → RepPs g H ds vs → RepP g H (.tup ds) (.ref a)
  | frl {a : Addr} {vs : List V} {ds : List D} : FrL g.K H a vs → RepPs g H ds vs → RepP g H (.frl ds) (.ref a)
  | fn (f : Nat) : RepP g H (.fn f) (.ref (g.fa f))
  | emp {a : Addr} : H a = some (.dK []) → RepP g H .emp (.ref a)
inductive RepPs (g : G) (H : Hp) : List D → List V → Prop
  | nil : RepPs g H [] []
  | cons {d : D} {v : V} {ds : List D} {vs : List V} : RepP g H d v → RepPs g H ds vs → RepPs g H (d :: ds) (v :: vs)
end
mutual
inductive Rep (g : G) (ρ : List Addr) (H : Hp) : D → V → Prop
  | pure {d : D} {v : V} : RepP g H d v → Rep g ρ H d v
  | ptr {n : Nat} {p : Addr} : ρ[n]? = some p → Rep g ρ H (.ptr n) (.ref p)
  | mtp {a : Addr} {vs : List V} {ds : List D} : SqT g.K H a vs → Reps g ρ H ds vs → Rep g ρ H (.mtp ds) (.ref a)
inductive Reps (g : G) (ρ : List Addr) (H : Hp) : List D → List V → Prop
  | nil : Reps g ρ H [] []
  | cons {d : D} {v : V} {ds : List D} {vs : List V} : Rep g ρ H d v → Reps g ρ H ds vs → Reps g ρ H (d :: ds) (v :: vs)
end
structure MonoH (g : G) (H H' : Hp) : Prop where
  sq : ∀ (a : Addr) (xs : List V), SqT g.K H a xs → SqT g.K H' a xs
  fr : ∀ (a : Addr) (xs : List V), FrL g.K H a xs → FrL g.K H' a xs
  dk : ∀ (a : Addr), H a = some (.dK []) → H' a = some (.dK [])
structure Mono (g : G) (ρ : List Addr) (H : Hp) (ρ' : List Addr) (H' : Hp) : Prop where
  h : MonoH g H H'
  pf : ∀ (n : Nat) (p : Addr), ρ[n]? = some p → ρ'[n]? = some p
  ou : ∀ (p : Addr) (o : HO), H p = some o → p ∉ ρ → H' p = some o ∧ p ∉ ρ'
theorem Mono.refl (g : G) (ρ : List Addr) (H : Hp) : Mono g ρ H ρ H := ⟨⟨fun _ _ h => h, fun _ _ h => h, fun _ h => h⟩, fun _ _ h => h, fun _ _ h n => ⟨h, n⟩⟩
theorem MonoH.trans {g : G} {H H1 H2 : Hp} (a : MonoH g H H1) (b : MonoH g H1 H2) : MonoH g H H2 :=
  ⟨fun x y h => b.sq x y (a.sq x y h), fun x y h => b.fr x y (a.fr x y h), fun x h => b.dk x (a.dk x h)⟩
theorem Mono.trans {g : G} {ρ ρ1 ρ2 : List Addr} {H H1 H2 : Hp} (a : Mono g ρ H ρ1 H1) (b : Mono g ρ1 H1 ρ2 H2) : Mono g ρ H ρ2 H2 :=
  ⟨a.h.trans b.h, fun x y h => b.pf x y (a.pf x y h), fun p o h n => let ⟨h1, n1⟩ := a.ou p o h n; b.ou p o h1 n1⟩
section
variable {g : G} {ρ ρ' : List Addr} {H H' : Hp}
mutual
theorem RepP.mono (m : MonoH g H H') : ∀ {d : D} {v : V}, RepP g H d v → RepP g H' d v
  | _, _, .non => .non
  | _, _, .bl b => .bl b
  | _, _, .int i => .int i
  | _, _, .str x => .str x
  | _, _, .ty n => .ty n
  | _, _, .tup s r => .tup (m.sq _ _ s) (RepPs.mono m r)
  | _, _, .frl s r => .frl (m.fr _ _ s) (RepPs.mono m r)
  | _, _, .fn f => .fn f
  | _, _, .emp h => .emp (m.dk _ h)
theorem RepPs.mono (m : MonoH g H H') : ∀ {d : List D} {v : List V}, RepPs g H d v → RepPs g H' d v
  | _, _, .nil => .nil
  | _, _, .cons r s => .cons (RepP.mono m r) (RepPs.mono m s)
end
mutual
theorem Rep.mono0 (m : MonoH g H H') (pf : ∀ (n : Nat) (p : Addr), ρ[n]? = some p → ρ'[n]? = some p) : ∀ {d : D} {v : V}, Rep g ρ H d v → Rep g ρ' H' d v
  | _, _, .pure r => .pure (r.mono m)
  | _, _, .ptr e => .ptr (pf _ _ e)
  | _, _, .mtp s r => .mtp (m.sq _ _ s) (Reps.mono0 m pf r)
theorem Reps.mono0 (m : MonoH g H H') (pf : ∀ (n : Nat) (p : Addr), ρ[n]? = some p → ρ'[n]? = some p) : ∀ {d : List D} {v : List V}, Reps g ρ H d v → Reps g ρ' H' d v
  | _, _, .nil => .nil
  | _, _, .cons r s => .cons (Rep.mono0 m pf r) (Reps.mono0 m pf s)
end
theorem Rep.mono (m : Mono g ρ H ρ' H') {d : D} {v : V} (r : Rep g ρ H d v) : Rep g ρ' H' d v := r.mono0 m.h m.pf
theorem Reps.mono (m : Mono g ρ H ρ' H') {d : List D} {v : List V} (r : Reps g ρ H d v) : Reps g ρ' H' d v := r.mono0 m.h m.pf
theorem Rep.monoH (m : MonoH g H H') {d : D} {v : V} (r : Rep g ρ H d v) : Rep g ρ H' d v := r.mono0 m fun _ _ h => h
theorem Reps.monoH (m : MonoH g H H') {d : List D} {v : List V} (r : Reps g ρ H d v) : Reps g ρ H' d v := r.mono0 m fun _ _ h => h
theorem RepPs.reps : ∀ {ds : List D} {vs : List V}, RepPs g H ds vs → Reps g ρ H ds vs
  | _, _, .nil => .nil
  | _, _, .cons r s => .cons (.pure r) (RepPs.reps s)
theorem Rep.toP {d : D} {v : V} (h : Rep g ρ H d v) (n : isPtr d = false) : RepP g H d v := by
  cases h with
  | pure r => exact r
  | ptr e => cases n
  | mtp s r => cases n
theorem Reps.toP : ∀ {ds : List D} {vs : List V}, Reps g ρ H ds vs → ds.any isPtr = false → RepPs g H ds vs
  | _, _, .nil, _ => .nil
  | _, _, .cons r s, n => by
    rw [List.any_cons, Bool.or_eq_false_iff] at n
    exact .cons (r.toP n.1) (Reps.toP s n.2)
theorem Reps.length : ∀ {ds : List D} {vs : List V}, Reps g ρ H ds vs → ds.length = vs.length
  | _, _, .nil => rfl
  | _, _, .cons _ s => congrArg Nat.succ (Reps.length s)
theorem Reps.get : ∀ {ds : List D} {vs : List V} {i : Nat} {d : D}, Reps g ρ H ds vs → ds[i]? = some d → ∃ v, vs[i]? = some v ∧ Rep g ρ H d v
  | _, _, _, _, .nil, e => by simp at e
  | _, _, 0, _, .cons r _, e => by simp at e; subst e; exact ⟨_, rfl, r⟩
  | _, _, i + 1, d, .cons _ s, e => by
    obtain ⟨v, h1, h2⟩ := Reps.get (i := i) (d := d) s (by simpa using e)
    exact ⟨v, by simpa using h1, h2⟩
theorem Reps.getv : ∀ {ds : List D} {vs : List V} {i : Nat} {v : V}, Reps g ρ H ds vs → vs[i]? = some v → ∃ d, ds[i]? = some d ∧ Rep g ρ H d v
  | _, _, _, _, .nil, e => by simp at e
  | _, _, 0, _, .cons r _, e => by simp at e; subst e; exact ⟨_, rfl, r⟩
  | _, _, i + 1, v, .cons _ s, e => by
    obtain ⟨d, h1, h2⟩ := Reps.getv (i := i) (v := v) s (by simpa using e)
    exact ⟨d, by simpa using h1, h2⟩
theorem Reps.append : ∀ {ds es : List D} {vs ws : List V}, Reps g ρ H ds vs → Reps g ρ H es ws → Reps g ρ H (ds ++ es) (vs ++ ws)
  | _, _, _, _, .nil, t => t
  | _, _, _, _, .cons r s, t => .cons r (Reps.append s t)
theorem Reps.set {d : D} {v : V} (r : Rep g ρ H d v) : ∀ {ds : List D} {vs : List V} (i : Nat), Reps g ρ H ds vs → Reps g ρ H (ds.set i d) (vs.set i v)
  | _, _, _, .nil => .nil
  | _, _, 0, .cons _ t => .cons r t
  | _, _, i + 1, .cons q t => .cons q (Reps.set r i t)
theorem Reps.take : ∀ {ds : List D} {vs : List V} (n : Nat), Reps g ρ H ds vs → Reps g ρ H (ds.take n) (vs.take n)
  | _, _, 0, _ => .nil
  | _, _, _ + 1, .nil => .nil
  | _, _, n + 1, .cons r t => .cons r (Reps.take n t)
theorem Reps.drop : ∀ {ds : List D} {vs : List V} (n : Nat), Reps g ρ H ds vs → Reps g ρ H (ds.drop n) (vs.drop n)
  | _, _, 0, r => r
  | _, _, _ + 1, .nil => .nil
  | _, _, n + 1, .cons _ t => Reps.drop n t
theorem Reps.dropLast {ds : List D} {vs : List V} (r : Reps g ρ H ds vs) : Reps g ρ H ds.dropLast vs.dropLast := by
  rw [List.dropLast_eq_take, List.dropLast_eq_take, r.length]
  exact r.take _
theorem Reps.rep {ds : List D} {vs : List V} (r : Reps g ρ H ds vs) : ∀ n : Nat, Reps g ρ H (List.replicate n ds).flatten (List.replicate n vs).flatten
  | 0 => .nil
  | n + 1 => by
    rw [List.replicate_succ, List.replicate_succ, List.flatten_cons, List.flatten_cons]
    exact r.append (Reps.rep r n)
structure Sim (g : G) (ρ : List Addr) (h : Hh) (H : Hp) : Prop where
  len : ρ.length = h.length
  nd : ρ.Nodup
  at_ : ∀ (a : Nat) (ds : List D), h[a]? = some ds → ∃ (p : Addr) (vs : List V), ρ[a]? = some p ∧ H p = some (.lst vs) ∧ Reps g (ρ.take a) H ds vs
theorem take_pf {α : Type} (ρ : List α) (a : Nat) : ∀ (n : Nat) (p : α), (ρ.take a)[n]? = some p → ρ[n]? = some p := fun n p e => by
  have h := (List.getElem?_eq_some_iff.mp e).1
  rw [List.length_take] at h
  rw [List.getElem?_take_of_lt (by omega)] at e
  exact e
theorem Sim.get {h : Hh} (s : Sim g ρ h H) {a : Nat} {ds : List D} (e : h[a]? = some ds) {p : Addr} (hp : ρ[a]? = some p) : ∃ vs : List V, H p = some (.lst vs) ∧ Reps g ρ H ds vs := by
  obtain ⟨q, vs, h1, h2, h3⟩ := s.at_ a ds e
  rw [hp] at h1
  cases h1
  exact ⟨vs, h2, h3.mono0 (Mono.refl g ρ H).h (take_pf ρ a)⟩
structure EnvR (g : G) (ρ : List Addr) (H : Hp) (sg : Sg) (σ : L2.St) : Prop where
  len : sg.length = σ.length
  at_ : ∀ (i : Nat) (d : D), sg[i]? = some d → isUna d = false → ∃ v, σ[i]? = some (some v) ∧ Rep g ρ H d v
theorem EnvR.mono {sg : Sg} {σ : L2.St} (m : Mono g ρ H ρ' H') (e : EnvR g ρ H sg σ) : EnvR g ρ' H' sg σ :=
  ⟨e.len, fun i d h u => let ⟨v, h1, h2⟩ := e.at_ i d h u; ⟨v, h1, h2.mono m⟩⟩
theorem Rep.notUna {d : D} {v : V} (r : Rep g ρ H d v) : isUna d = false := by
  cases r with
  | pure r => cases r <;> rfl
  | ptr e => rfl
  | mtp s r => rfl
theorem EnvR.set {sg : Sg} {σ : L2.St} {i : Nat} {d : D} {v : V} (e : EnvR g ρ H sg σ) (r : Rep g ρ H d v) : EnvR g ρ H (sg.set i d) (σ.set i (some v)) := by
  refine ⟨by rw [List.length_set, List.length_set]; exact e.len, fun j c h u => ?_⟩
  by_cases hj : j = i
  · subst hj
    by_cases hl : j < sg.length
    · rw [List.getElem?_set_self hl] at h
      cases h
      exact ⟨v, by rw [List.getElem?_set_self (by rw [← e.len]; exact hl)], r⟩
    · rw [List.getElem?_eq_none (by simpa using hl)] at h
      cases h
  · rw [List.getElem?_set_ne (Ne.symm hj)] at h
    obtain ⟨w, h1, h2⟩ := e.at_ j c h u
    exact ⟨w, by rw [List.getElem?_set_ne (Ne.symm hj)]; exact h1, h2⟩
/-- a new object that the program's data do not name -/
theorem mono_new {p : Addr} {o : HO} (n : H p = none) : MonoH g H (upd H p o) := by
  refine ⟨fun a xs h => ?_, fun a xs h => ?_, fun a h => by rw [upd_ne (ne_of_none h n)]; exact h⟩
  · rcases h with h | h
    · rcases h with h | ⟨ob, h⟩
      · exact .inl (.inl (by rw [upd_ne (ne_of_none h n)]; exact h))
      · exact .inl (.inr ⟨ob, by rw [upd_ne (ne_of_none h n)]; exact h⟩)
    · exact .inr h
  · rcases h with ⟨ob, h⟩ | h
    · exact .inl ⟨ob, by rw [upd_ne (ne_of_none h n)]; exact h⟩
    · exact .inr h
theorem Mono.new {p : Addr} {o : HO} (n : H p = none) : Mono g ρ H ρ (upd H p o) := ⟨mono_new n, fun _ _ h => h, fun q _ e nq => ⟨by rw [upd_ne (ne_of_none e n)]; exact e, nq⟩⟩
theorem mono_lst {p : Addr} {vs ws : List V} (n : H p = some (.lst vs)) : MonoH g H (upd H p (.lst ws)) := by
  have ne : ∀ {a : Addr} {u : HO}, H a = some u → (∀ zs, u ≠ .lst zs) → a ≠ p := fun h d => fun e => by
    subst e
    rw [n] at h
    cases h
    exact d vs rfl
  refine ⟨fun a xs h => ?_, fun a xs h => ?_, fun a h => by rw [upd_ne (ne h (fun _ z => by cases z))]; exact h⟩
  · rcases h with h | h
    · rcases h with h | ⟨ob, h⟩
      · exact .inl (.inl (by rw [upd_ne (ne h (fun _ z => by cases z))]; exact h))
      · exact .inl (.inr ⟨ob, by rw [upd_ne (ne h (fun _ z => by cases z))]; exact h⟩)
    · exact .inr h
  · rcases h with ⟨ob, h⟩ | h
    · exact .inl ⟨ob, by rw [upd_ne (ne h (fun _ z => by cases z))]; exact h⟩
    · exact .inr h
theorem Sim.grow {h : Hh} (s : Sim g ρ h H) (m : MonoH g H H') (k : ∀ p ∈ ρ, ∀ vs, H p = some (.lst vs) → H' p = some (.lst vs)) : Sim g ρ h H' :=
  ⟨s.len, s.nd, fun a ds e => let ⟨p, vs, h1, h2, h3⟩ := s.at_ a ds e; ⟨p, vs, h1, k p (List.mem_of_getElem? h1) vs h2, h3.monoH m⟩⟩
/-- a new object beside -/
theorem Sim.new {h : Hh} {p : Addr} {o : HO} (s : Sim g ρ h H) (n : H p = none) : Sim g ρ h (upd H p o) :=
  s.grow (mono_new n) fun q _ vs e => by rw [upd_ne (ne_of_none e n)]; exact e
/-- a new list of the heap -/
theorem Sim.push {h : Hh} {p : Addr} {vs : List V} {ds : List D} (s : Sim g ρ h H) (n : H p = none) (r : Reps g ρ H ds vs) :
    Sim g (ρ ++ [p]) (h ++ [ds]) (upd H p (.lst vs)) ∧ Mono g ρ H (ρ ++ [p]) (upd H p (.lst vs)) ∧ (ρ ++ [p])[h.length]? = some p := by
  have hp : p ∉ ρ := fun hm => by
    obtain ⟨a, ha⟩ := List.getElem?_of_mem hm
    have hl : a < h.length := by rw [← s.len]; exact (List.getElem?_eq_some_iff.mp ha).1
    obtain ⟨q, ws, h1, h2, _⟩ := s.at_ a h[a] (by simp [hl])
    rw [ha] at h1
    cases h1
    rw [n] at h2
    cases h2
  have m0 : MonoH g H (upd H p (.lst vs)) := mono_new n
  refine ⟨⟨by simp [s.len], List.nodup_append.mpr ⟨s.nd, by simp, fun a ha b hb => by simp at hb; subst hb; exact fun e => hp (e ▸ ha)⟩, fun a ds' e => ?_⟩,
    ⟨m0, fun i q e => by rw [List.getElem?_append_left (List.getElem?_eq_some_iff.mp e).1]; exact e, fun q o e nq => ⟨by rw [upd_ne (ne_of_none e n)]; exact e, fun hm => by
      rcases List.mem_append.mp hm with hm | hm
      · exact nq hm
      · simp at hm; exact ne_of_none e n hm⟩⟩, by rw [← s.len]; simp⟩
  by_cases hl : a < h.length
  · rw [List.getElem?_append_left hl] at e
    obtain ⟨q, ws, h1, h2, h3⟩ := s.at_ a ds' e
    refine ⟨q, ws, by rw [List.getElem?_append_left (List.getElem?_eq_some_iff.mp h1).1]; exact h1, by rw [upd_ne (ne_of_none h2 n)]; exact h2, ?_⟩
    rw [List.take_append_of_le_length (by rw [s.len]; omega)]
    exact h3.monoH m0
  · have ea : a = h.length := by
      have := (List.getElem?_eq_some_iff.mp e).1
      simp at this
      omega
    subst ea
    simp at e
    subst e
    refine ⟨p, vs, by rw [← s.len]; simp, upd_same, ?_⟩
    rw [← s.len, List.take_left']
    · exact r.monoH m0
    · rfl
/-- a list that stood beside is taken in -/
theorem Sim.adopt {h : Hh} {p : Addr} {vs : List V} {ds : List D} (s : Sim g ρ h H) (n : H p = some (.lst vs)) (np : p ∉ ρ) (r : Reps g ρ H ds vs) :
    Sim g (ρ ++ [p]) (h ++ [ds]) H ∧ (ρ ++ [p])[h.length]? = some p := by
  refine ⟨⟨by simp [s.len], List.nodup_append.mpr ⟨s.nd, by simp, fun a ha b hb => by simp at hb; subst hb; exact fun e => np (e ▸ ha)⟩, fun a ds' e => ?_⟩, by rw [← s.len]; simp⟩
  by_cases hl : a < h.length
  · rw [List.getElem?_append_left hl] at e
    obtain ⟨q, ws, h1, h2, h3⟩ := s.at_ a ds' e
    refine ⟨q, ws, by rw [List.getElem?_append_left (List.getElem?_eq_some_iff.mp h1).1]; exact h1, h2, ?_⟩
    rw [List.take_append_of_le_length (by rw [s.len]; omega)]
    exact h3
  · have ea : a = h.length := by
      have := (List.getElem?_eq_some_iff.mp e).1
      simp at this
      omega
    subst ea
    simp at e
    subst e
    refine ⟨p, vs, by rw [← s.len]; simp, n, ?_⟩
    rw [← s.len, List.take_left']
    · exact r
    · rfl
/-- a list beside is written -/
theorem Sim.beside {h : Hh} {p : Addr} {vs ws : List V} (s : Sim g ρ h H) (n : H p = some (.lst vs)) (np : p ∉ ρ) : Sim g ρ h (upd H p (.lst ws)) :=
  s.grow (mono_lst n) fun q hq us e => by rw [upd_ne (fun z : q = p => np (by rw [← z]; exact hq))]; exact e
/-- a list of the heap is written -/
theorem Sim.write {h : Hh} {p : Addr} {a : Nat} {vs ws : List V} {ds : List D} (s : Sim g ρ h H) (hp : ρ[a]? = some p) (n : H p = some (.lst vs)) (r : Reps g (ρ.take a) H ds ws) :
    Sim g ρ (h.set a ds) (upd H p (.lst ws)) ∧ Mono g ρ H ρ (upd H p (.lst ws)) := by
  have m : MonoH g H (upd H p (.lst ws)) := mono_lst n
  refine ⟨⟨by simp [s.len], s.nd, fun b ds' e => ?_⟩, m, fun _ _ e => e, fun q o e nq => ⟨by rw [upd_ne (fun z : q = p => nq (by rw [z]; exact List.mem_of_getElem? hp))]; exact e, nq⟩⟩
  by_cases hb : b = a
  · subst hb
    have hl : b < h.length := by
      have := (List.getElem?_eq_some_iff.mp e).1
      simpa using this
    rw [List.getElem?_set_self hl] at e
    cases e
    exact ⟨p, ws, hp, upd_same, r.monoH m⟩
  · rw [List.getElem?_set_ne (Ne.symm hb)] at e
    obtain ⟨q, us, h1, h2, h3⟩ := s.at_ b ds' e
    have hq : q ≠ p := fun z => hb (by
      subst z
      have l1 := (List.getElem?_eq_some_iff.mp h1)
      have l2 := (List.getElem?_eq_some_iff.mp hp)
      exact (List.getElem_inj s.nd).mp (l1.2.trans l2.2.symm))
    exact ⟨q, us, h1, by rw [upd_ne hq]; exact h2, h3.monoH m⟩
/-- forgetting the newest lists -/
theorem Sim.take {h : Hh} (s : Sim g ρ h H) (n : Nat) : Sim g (ρ.take n) (h.take n) H := by
  refine ⟨by simp [s.len], (List.take_sublist n ρ).nodup s.nd, fun a ds e => ?_⟩
  have ha : a < n := by
    have := (List.getElem?_eq_some_iff.mp e).1
    simp at this
    omega
  have e' : h[a]? = some ds := by rw [List.getElem?_take_of_lt ha] at e; exact e
  obtain ⟨p, vs, h1, h2, h3⟩ := s.at_ a ds e'
  refine ⟨p, vs, by rw [List.getElem?_take_of_lt ha]; exact h1, h2, ?_⟩
  rw [List.take_take, Nat.min_eq_left (Nat.le_of_lt ha)]
  exact h3
end
end Ev
-- EvC
namespace Ev
open PySem PySem.Spec PyProof.Rows L2
/-! the look at the text -/
/-- the names that the text uses -/
structure Nm where
  fs : List (Str × List Str)
  cs : List Str
  ds : List Str
  free : List Str
def visB (sc : Scope) (x : Str) : Bool := (match sc.names.lookup x with
  | some .local => true
  | some .cell => true
  | some .free => true
  | _ => false) && !decide (x = ("__debug__" : Str)) && !decide (x = ("__classdict__" : Str))
def locB (sc : Scope) (x : Str) : Bool := match sc.names.lookup x with
  | some .local => true
  | _ => false
def glB (sc : Scope) (x : Str) : Bool := (match sc.names.lookup x with
  | some .globalImplicit => true
  | _ => false) && !decide (x = ("__debug__" : Str))
def bltB (M : Nm) (sc : Scope) (x y : Str) : Bool := decide (x = y) && glB sc x && decide (x ∈ M.free)
def bopB : BOp → Operator → Bool
  | .add, .Add => true
  | .sub, .Sub => true
  | .mul, .Mult => true
  | .mod, .Mod => true
  | .fdiv, .FloorDiv => true
  | .pow, .Pow => true
  | _, _ => false
def copB : COp → CmpOp → Bool
  | .eq, .Eq => true
  | .ne, .NotEq => true
  | .lt, .Lt => true
  | .le, .LtE => true
  | .gt, .Gt => true
  | .ge, .GtE => true
  | .inn, .In => true
  | .nin, .NotIn => true
  | .isN, .Is => true
  | .notN, .IsNot => true
  | _, _ => false
/-- a comparison that may stand in a chain -/
def copI : COp → Bool
  | .lt => true
  | .le => true
  | .gt => true
  | .ge => true
  | _ => false
def biName : Bi → Str
  | .len => "len"
  | .int => "int"
  | .abs => "abs"
  | .max2 => "max"
  | .min2 => "min"
  | .sum => "sum"
  | .any => "any"
  | .all => "all"
  | .tuple => "tuple"
  | .list => "list"
  | _ => "isinstance"
def isiB : Bi → Bool
  | .isIntB => true
  | .isBoolB => true
  | .isTupB => true
  | _ => false
def isiN : Bi → Str
  | .isBoolB => "bool"
  | .isTupB => "tuple"
  | _ => "int"
def isSet : Expr → Bool
  | .Set _ _ _ => true
  | _ => false
def isStar : Expr → Bool
  | .Starred _ _ => true
  | _ => false
def isSlice : Expr → Bool
  | .Slice _ _ _ _ => true
  | _ => false
def isComp : Expr → Bool
  | .ListComp _ _ _ _ => true
  | .SetComp _ _ _ _ => true
  | .DictComp _ _ _ _ _ => true
  | _ => false
def isCall : Expr → Bool
  | .Call _ _ _ _ => true
  | _ => false
def isNone' : Expr → Bool
  | .Constant .none _ _ => true
  | _ => false
def locC (sc : Scope) (x : Str) : Bool := match sc.names.lookup x with
  | some .local => true
  | some .cell => true
  | _ => false
def isTup : Expr → Bool
  | .Tuple _ _ _ => true
  | _ => false
/-- enumerate and zip are unpacked -/
def tgOk (i : I) (t : Expr) : Bool := match i with
  | .iE _ => isTup t
  | .iZ _ _ => isTup t
  | _ => true
def gOwn (own : List Nat) : I → Bool
  | .gv i => decide (i ∈ own)
  | .gt g => gOwn own g
  | .gnil => true
  | .gcons g r => gOwn own g && gOwn own r
  | _ => false
/-- an expression whose test is its value's truth -/
def plainT : Expr → Bool
  | .BoolOp _ _ _ => false
  | .UnaryOp .Not _ _ => false
  | .Compare _ _ _ _ => false
  | .IfExp _ _ _ _ => false
  | .NamedExpr _ _ _ => false
  | _ => true
section
variable (M : Nm) (N : List Str)
mutual
def ckE (sc : Scope) (i : I) (e : Expr) : Bool := match i, e with
  | .var i, e => match e with
    | .Name x _ => decide (N[i]? = some x) && visB sc x
    | _ => false
  | .cst d, e => match e with
    | .Constant c _ _ => match c with
      | .none => (match d with | .non => true | _ => false)
      | .bool b => (match d with | .bl c => decide (b = c) | _ => false)
      | .int i => (match d with | .int j => decide (i = j) | _ => false)
      | .str x => (match d with | .str y => decide (x = y) | _ => false)
      | _ => false
    | _ => false
  | .glb k, e => match e with
    | .Name x _ => decide (M.cs[k]? = some x) && glB sc x
    | _ => false
  | .gdx k i, e => match e with
    | .Subscript o s _ => (match o with
      | .Name x _ => decide (M.ds[k]? = some x) && glB sc x
      | _ => false) && ckE sc i s && !isSlice s
    | _ => false
  | .tup a, e => match e with
    | .Tuple es _ _ => ckA sc a es
    | _ => false
  | .lst a, e => match e with
    | .List es _ => ckA sc a es
    | _ => false
  | .dct, e => match e with
    | .Dict ks vs _ => match ks, vs with
      | [], [] => true
      | _, _ => false
    | _ => false
  | .bin o a b, e => match e with
    | .BinOp x p y _ => bopB o p && ckE sc a x && ckE sc b y
    | _ => false
  | .neg a, e => match e with
    | .UnaryOp p x _ => (match p with | .USub => true | _ => false) && ckE sc a x
    | _ => false
  | .cmp o a b, e => match e with
    | .Compare x ps ys _ => match ps, ys with
      | [p], [y] => copB o p && ckE sc a x && ckE sc b y && !isSet y
      | _, _ => false
    | _ => false
  | .chn o p a b c, e => match e with
    | .Compare x qs ys _ => match qs, ys with
      | [q, r], [y, z] => copB o q && copB p r && copI o && copI p && ckE sc a x && ckE sc b y && ckE sc c z && !isSet z
      | _, _ => false
    | _ => false
  | .and a b, e => match e with
    | .BoolOp o xs _ => match o, xs with
      | .And, x :: y :: r => ckE sc a x && ckAnd sc b (y :: r)
      | _, _ => false
    | _ => false
  | .or a b, e => match e with
    | .BoolOp o xs _ => match o, xs with
      | .Or, x :: y :: r => ckE sc a x && ckOr sc b (y :: r)
      | _, _ => false
    | _ => false
  | .not a, e => match e with
    | .UnaryOp p x _ => (match p with | .Not => true | _ => false) && ckE sc a x
    | _ => false
  | .ife t a b, e => match e with
    | .IfExp c x y _ => ckT sc t c && ckE sc a x && ckE sc b y
    | _ => false
  | .ix a i, e => match e with
    | .Subscript o s _ => ckE sc a o && ckE sc i s && !isSlice s
    | _ => false
  | .sl a lo hi, e => match e with
    | .Subscript o s _ => match s with
      | .Slice l u st _ => ckE sc a o && ckO sc lo l && ckO sc hi u && st.isNone
      | _ => false
    | _ => false
  | .cal f a, e => match e with
    | .Call fn es ks _ => (match fn with
      | .Name x _ => (match M.fs[f]? with
        | some (y, _) => decide (x = y) && glB sc x
        | none => false)
      | _ => false) && ckA sc a es && ks.isEmpty && !es.isEmpty && es.all fun e => !isStar e
    | _ => false
  | .blt b a, e => match e with
    | .Call fn es ks _ => (match fn with
      | .Name x _ => bltB M sc x (biName b) && !isiB b
      | _ => false) && ks.isEmpty && (ckA sc a es && !es.isEmpty && es.all fun e => !isStar e)
    | _ => false
  | .isi b a, e => match e with
    | .Call fn es ks _ => (match fn with
      | .Name x _ => bltB M sc x "isinstance"
      | _ => false) && ks.isEmpty && (match es with
        | [v, t] => ckE sc a v && (match t with
          | .Name y _ => bltB M sc y (isiN b) && isiB b
          | _ => false) && !isStar v
        | _ => false)
    | _ => false
  | .app o v, e => match e with
    | .Call fn es ks pos => match fn, es with
      | .Attribute x m ap, [y] => decide (m = ("append" : Str)) && ckE sc o x && ckE sc v y && ks.isEmpty && !isStar y && decide (ap.endLine = pos.line) && !isCall x
      | _, _ => false
    | _ => false
  | .ext o v, e => match e with
    | .Call fn es ks pos => match fn, es with
      | .Attribute x m ap, [y] => decide (m = ("extend" : Str)) && ckE sc o x && ckE sc v y && ks.isEmpty && !isStar y && decide (ap.endLine = pos.line) && !isCall x
      | _, _ => false
    | _ => false
  | .pop o, e => match e with
    | .Call fn es ks pos => match fn, es with
      | .Attribute x m ap, [] => decide (m = ("pop" : Str)) && ckE sc o x && ks.isEmpty && decide (ap.endLine = pos.line) && !isCall x
      | _, _ => false
    | _ => false
  | .lc tg it ifs v own, e => match e with
    | .ListComp elt gs scope _ => match gs with
      | [⟨t, i, fs, as⟩] => decide (as = 0) && ckI sc it i && blkC N sc scope (own.map fun k => (N.getD k "", k)) && ckG scope tg t && own.all (fun k => decide (k < N.length)) &&
        (match fs with
          | [] => (match ifs with | .cst (.bl true) => true | _ => false)
          | [f] => ckT (relS scope sc) ifs f
          | _ => false) && ckE (relS scope sc) v elt && gOwn own tg && !isSet i && tgOk it t
      | _ => false
    | _ => false
  | _, _ => false
termination_by structural i
def ckT (sc : Scope) (i : I) (e : Expr) : Bool := match i, e with
  | .and a b, e => match e with
    | .BoolOp o xs _ => match o, xs with
      | .And, x :: y :: r => ckT sc a x && ckTAnd sc b (y :: r)
      | _, _ => false
    | _ => false
  | .or a b, e => match e with
    | .BoolOp o xs _ => match o, xs with
      | .Or, x :: y :: r => ckT sc a x && ckTOr sc b (y :: r)
      | _, _ => false
    | _ => false
  | .not a, e => match e with
    | .UnaryOp p x _ => (match p with | .Not => true | _ => false) && ckT sc a x
    | _ => false
  | .cmp o a b, e => match e with
    | .Compare x ps ys _ => match ps, ys with
      | [p], [y] => copB o p && ckE sc a x && ckE sc b y && !isSet y
      | _, _ => false
    | _ => false
  | .chn o p a b c, e => match e with
    | .Compare x qs ys _ => match qs, ys with
      | [q, r], [y, z] => copB o q && copB p r && copI o && copI p && ckE sc a x && ckE sc b y && ckE sc c z && !isSet z
      | _, _ => false
    | _ => false
  | .tv a, e => ckE sc a e && plainT e
  | _, _ => false
termination_by structural i
/-- the rest of a and ..: one, or two and more -/
def ckAnd (sc : Scope) (i : I) (e : List Expr) : Bool := match i, e with
  | .and a b, es => match es with
    | y :: z :: r => ckE sc a y && ckAnd sc b (z :: r)
    | _ => false
  | .one a, es => match es with
    | [y] => ckE sc a y
    | _ => false
  | _, _ => false
termination_by structural i
def ckOr (sc : Scope) (i : I) (e : List Expr) : Bool := match i, e with
  | .or a b, es => match es with
    | y :: z :: r => ckE sc a y && ckOr sc b (z :: r)
    | _ => false
  | .one a, es => match es with
    | [y] => ckE sc a y
    | _ => false
  | _, _ => false
termination_by structural i
def ckTAnd (sc : Scope) (i : I) (e : List Expr) : Bool := match i, e with
  | .and a b, es => match es with
    | y :: z :: r => ckT sc a y && ckTAnd sc b (z :: r)
    | _ => false
  | .one a, es => match es with
    | [y] => ckT sc a y
    | _ => false
  | _, _ => false
termination_by structural i
def ckTOr (sc : Scope) (i : I) (e : List Expr) : Bool := match i, e with
  | .or a b, es => match es with
    | y :: z :: r => ckT sc a y && ckTOr sc b (z :: r)
    | _ => false
  | .one a, es => match es with
    | [y] => ckT sc a y
    | _ => false
  | _, _ => false
termination_by structural i
def ckA (sc : Scope) (i : I) (e : List Expr) : Bool := match i, e with
  | .anil, es => es.isEmpty
  | .acons a r, es => match es with
    | e :: es => ckE sc a e && ckA sc r es && !isStar e
    | [] => false
  | .astar a r, es => match es with
    | e :: es => (match e with | .Starred v _ => ckE sc a v | _ => false) && ckA sc r es
    | [] => false
  | _, _ => false
termination_by structural i
def ckO (sc : Scope) (i : I) (e : Option Expr) : Bool := match i, e with
  | .pno, o => o.isNone
  | .po a, o => match o with
    | some e => ckE sc a e
    | none => false
  | _, _ => false
termination_by structural i
def ckI (sc : Scope) (i : I) (e : Expr) : Bool := match i, e with
  | .iR a, e => match e with
    | .Call fn es ks _ => (match fn with
      | .Name x _ => bltB M sc x "range"
      | _ => false) && ckA sc a es && ks.isEmpty && (es.all fun e => !isStar e) && decide (es.length ≤ 3) && !es.isEmpty
    | _ => false
  | .iE a, e => match e with
    | .Call fn es ks _ => (match fn with
      | .Name x _ => bltB M sc x "enumerate"
      | _ => false) && (match es with
        | [v] => ckE sc a v && !isStar v
        | _ => false) && ks.isEmpty
    | _ => false
  | .iZ a b, e => match e with
    | .Call fn es ks _ => (match fn with
      | .Name x _ => bltB M sc x "zip"
      | _ => false) && (match es with
        | [v, w] => ckE sc a v && ckE sc b w && !isStar v && !isStar w
        | _ => false) && ks.isEmpty
    | _ => false
  | .iS a, e => ckE sc a e && !isSet e
  | _, _ => false
termination_by structural i
/-- a target; those of a tuple are names -/
def ckG (sc : Scope) (i : I) (e : Expr) : Bool := match i, e with
  | .gv i, e => match e with
    | .Name x _ => decide (N[i]? = some x) && locC sc x
    | _ => false
  | .gt g, e => match e with
    | .Tuple es _ _ => ckGs sc g es
    | _ => false
  | .gx o i, e => match e with
    | .Subscript a s _ => ckE sc o a && ckE sc i s && !isSlice s
    | _ => false
  | _, _ => false
termination_by structural i
def ckGs (sc : Scope) (i : I) (e : List Expr) : Bool := match i, e with
  | .gnil, es => es.isEmpty
  | .gcons g r, es => match es with
    | e :: es => ckG sc g e && ckGs sc r es && !isStar e
    | [] => false
  | _, _ => false
termination_by structural i
end
end
/-- the names of a row of targets, as the store that swaps sees them -/
def parNames (sc : Scope) (ts : List Expr) : List Str := ts.filterMap fun
    | .Name id pos => if sc.names.lookup id == some .local && pos.line == (ts.head?.map (·.pos.line)).getD 0 then some id else none
    | _ => none
/-- no swapped stores -/
def swNo (sc : Scope) (t e : Expr) : Bool := match t, e with
  | .Tuple ts _ _, .Tuple vs _ _ => !(ts.length == 2 || ts.length == 3) || vs.length != ts.length || vs.all (foldedForSure 8) || (parNames sc ts).length != ts.length
  | .List _ _, .Tuple _ _ _ => false
  | _, _ => true
/-- the stores of these names, swapped -/
def swYes (sc : Scope) (ts vs : List Expr) (ns : List Str) : Bool :=
  (ts.length == 2 || ts.length == 3) && vs.length == ts.length && !(vs.any isStar) && decide (parNames sc ts = ns) && ns.length == ts.length && ns.eraseDups.length == ns.length && !(vs.all (foldedForSure 8)) && !(vs.all (constantsAlone 8))
/-- is a comprehension kept in its name at once -/
def lcB (sc : Scope) (t e : Expr) : Option Bool := match e with
  | .ListComp _ _ s p => match t with
    | .Name y py => some (sc.names.lookup y == some .local && py.line == p.line && !(s.names.any fun (n, k) => n == y && (k == .local || k == .cell)))
    | _ => some false
  | e => if isComp e then none else some false
section
variable (M : Nm) (N : List Str) (sc : Scope)
mutual
def ckS (i : I) (s : Stmt) : Bool := match i, s with
  | .sAsg g e, s => match s with
    | .Assign ts v _ => match ts with
      | [t] => ckE M N sc e v && ckG M N sc g t && !isStar t && swNo sc t v && (lcB sc t v).isSome
      | _ => false
    | _ => false
  | .sPar2 i j a b, s => match s with
    | .Assign ts v _ => match ts, v with
      | [.Tuple [.Name x p, .Name y q] _ _], .Tuple [u, w] _ _ => ckE M N sc a u && ckE M N sc b w && decide (N[i]? = some x) && decide (N[j]? = some y) && decide (i ≠ j) && locB sc x && locB sc y && swYes sc [.Name x p, .Name y q] [u, w] [x, y]
      | _, _ => false
    | _ => false
  | .sPar3 i j l a b c, s => match s with
    | .Assign ts v _ => match ts, v with
      | [.Tuple [.Name x p, .Name y q, .Name z r] _ _], .Tuple [u, w, t] _ _ => ckE M N sc a u && ckE M N sc b w && ckE M N sc c t && decide (N[i]? = some x) && decide (N[j]? = some y) && decide (N[l]? = some z) && decide (i ≠ j) && decide (i ≠ l) && decide (j ≠ l) && locB sc x && locB sc y && locB sc z && swYes sc [.Name x p, .Name y q, .Name z r] [u, w, t] [x, y, z]
      | _, _ => false
    | _ => false
  | .sAug i o e, s => match s with
    | .AugAssign t p v _ => (match t with
      | .Name x _ => decide (N[i]? = some x) && locC sc x
      | _ => false) && bopB o p && ckE M N sc e v
    | _ => false
  | .sAugX o i op e, s => match s with
    | .AugAssign t p v _ => (match t with
      | .Subscript a j _ => ckE M N sc o a && ckE M N sc i j && !isSlice j
      | _ => false) && bopB op p && ckE M N sc e v
    | _ => false
  | .sExp e, s => match s with
    | .Expr v _ => ckE M N sc e v && !isComp v
    | _ => false
  | .sFor tg it b, s => match s with
    | .For t i body orelse _ => ckI M N sc it i && ckG M N sc tg t && tgOk it t && ckSs b body && orelse.isEmpty && !isSet i && (match tg with | .gx _ _ => false | _ => true)
    | _ => false
  | .sWh t b, s => match s with
    | .While c body orelse _ => ckT M N sc t c && ckSs b body && orelse.isEmpty
    | _ => false
  | .sIf t a b, s => match s with
    | .If c x y _ => ckT M N sc t c && ckSs a x && ckSs b y
    | _ => false
  | .sRet e, s => match s with
    | .Return v _ => match v with
      | some v => ckE M N sc e v
      | none => false
    | _ => false
  | .sRetN, s => match s with
    | .Return v _ => v.isNone
    | _ => false
  | .sNever, _ => true
  | .sPass, s => match s with
    | .Pass _ => true
    | .Expr v _ => match v with
      | .Constant (.str _) _ _ => true
      | _ => false
    | _ => false
  | .sBrk, s => match s with
    | .Break _ => true
    | _ => false
  | .sCnt, s => match s with
    | .Continue _ => true
    | _ => false
  | _, _ => false
termination_by structural i
def ckSs (i : I) (ss : List Stmt) : Bool := match i, ss with
  | .sNil, ss => ss.isEmpty
  | .sNever, _ => true
  | .sCons a r, ss => match ss with
    | s :: ss => ckS a s && ckSs r ss
    | [] => false
  | _, _ => false
termination_by structural i
end
end
/-- a def of the program, as the written part holds it -/
structure DefOk (g : G) (M : Nm) (K : PySem.W.Frag) (f : Nat) (x : Str) (ps : List Str) (F : Fd) : Prop where
  ex : ∃ (N : List Str) (qual : Str) (params : Arguments) (body : List Stmt) (scope : Scope) (fd : FuncData), FunD K x qual params body scope [] [] (g.fa f) fd ∧ FnScope N ps scope ∧ ckSs M N scope F.body body = true ∧
    ps.length = F.ar ∧ N.length = F.sz ∧ Binds K fd ps []
def PgOk (P : Pg) (g : G) (M : Nm) (K : PySem.W.Frag) : Prop := ∀ (f : Nat) (x : Str) (ps : List Str), M.fs[f]? = some (x, ps) → ∃ F, P.fs[f]? = some F ∧ DefOk g M K f x ps F
end Ev
-- EvD
namespace Ev
open PySem PySem.Spec PyProof.Rows L2
/-! readings by the evaluator -/
structure Kt where
  e : VK := fun _ _ => False
  a : List V → Hp → Prop := fun _ _ => False
  i : Src → Hh → List Addr → Hp → Prop := fun _ _ _ _ => False
  x : Ends := { nx := fun _ _ => False, rt := fun _ _ => False }
def Run (g : G) (ρ : List Addr) (H : Hp) (k : Kt) : R → Prop
  | .ok d h' => ∀ (ρ' : List Addr) (H' : Hp) (v : V), Mono g ρ H ρ' H' → Sim g ρ' h' H' → Rep g ρ' H' d v → k.e v H'
  | .oks ds h' => ∀ (ρ' : List Addr) (H' : Hp) (vs : List V), Mono g ρ H ρ' H' → Sim g ρ' h' H' → Reps g ρ' H' ds vs → k.a vs H'
  | .osr s h' => ∀ (ρ' : List Addr) (H' : Hp), Mono g ρ H ρ' H' → Sim g ρ' h' H' → k.i s h' ρ' H'
  | .nx sg h' => ∀ (ρ' : List Addr) (H' : Hp) (σ : L2.St), Mono g ρ H ρ' H' → Sim g ρ' h' H' → EnvR g ρ' H' sg σ → k.x.nx σ H'
  | .bk sg h' => ∀ (ρ' : List Addr) (H' : Hp) (σ : L2.St), Mono g ρ H ρ' H' → Sim g ρ' h' H' → EnvR g ρ' H' sg σ → k.x.bk σ H'
  | .ct sg h' => ∀ (ρ' : List Addr) (H' : Hp) (σ : L2.St), Mono g ρ H ρ' H' → Sim g ρ' h' H' → EnvR g ρ' H' sg σ → k.x.ct σ H'
  | .rt d h' => ∀ (ρ' : List Addr) (H' : Hp) (v : V), Mono g ρ H ρ' H' → Sim g ρ' h' H' → Rep g ρ' H' d v → k.x.rt v H'
  | .no => False
abbrev ke (Q : VK) : Kt := { e := Q }
abbrev ka (Q : List V → Hp → Prop) : Kt := { a := Q }
abbrev ki (Q : Src → Hh → List Addr → Hp → Prop) : Kt := { i := Q }
abbrev kx (D : Ends) : Kt := { x := D }
def RunT (g : G) (ρ : List Addr) (H : Hp) (Q : Bool → Hp → Prop) : R → Prop
  | .ok d h' => ∃ b, tru h' d = some b ∧ ∀ (ρ' : List Addr) (H' : Hp), Mono g ρ H ρ' H' → Sim g ρ' h' H' → (∃ v, Rep g ρ' H' d v) → Q b H'
  | _ => False
section
variable {g : G} {ρ ρ1 : List Addr} {H H1 : Hp} {k : Kt}
theorem Run.base (m : Mono g ρ H ρ1 H1) : ∀ {r : R}, Run g ρ H k r → Run g ρ1 H1 k r
  | .ok _ _, hr => fun ρ' H' v m' s q => hr ρ' H' v (m.trans m') s q
  | .oks _ _, hr => fun ρ' H' v m' s q => hr ρ' H' v (m.trans m') s q
  | .osr _ _, hr => fun ρ' H' m' s => hr ρ' H' (m.trans m') s
  | .nx _ _, hr => fun ρ' H' v m' s q => hr ρ' H' v (m.trans m') s q
  | .bk _ _, hr => fun ρ' H' v m' s q => hr ρ' H' v (m.trans m') s q
  | .ct _ _, hr => fun ρ' H' v m' s q => hr ρ' H' v (m.trans m') s q
  | .rt _ _, hr => fun ρ' H' v m' s q => hr ρ' H' v (m.trans m') s q
  | .no, hr => hr
theorem Run.on {r : R} {f : D → Hh → R} (hr : Run g ρ H k (r.on f)) {Q : VK}
    (c : ∀ (d : D) (h' : Hh) (ρ' : List Addr) (H' : Hp) (v : V), Mono g ρ H ρ' H' → Sim g ρ' h' H' → Rep g ρ' H' d v → Run g ρ' H' k (f d h') → Q v H') : Run g ρ H (ke Q) r := by
  cases r with
  | ok d h' => exact fun ρ' H' v m s q => c d h' ρ' H' v m s q (hr.base m)
  | _ => exact (show False from hr).elim
theorem Run.ons {r : R} {f : List D → Hh → R} (hr : Run g ρ H k (r.ons f)) {Q : List V → Hp → Prop}
    (c : ∀ (d : List D) (h' : Hh) (ρ' : List Addr) (H' : Hp) (v : List V), Mono g ρ H ρ' H' → Sim g ρ' h' H' → Reps g ρ' H' d v → Run g ρ' H' k (f d h') → Q v H') : Run g ρ H (ka Q) r := by
  cases r with
  | oks d h' => exact fun ρ' H' v m s q => c d h' ρ' H' v m s q (hr.base m)
  | _ => exact (show False from hr).elim
theorem Run.onsr {r : R} {f : Src → Hh → R} (hr : Run g ρ H k (r.onsr f)) {Q : Src → Hh → List Addr → Hp → Prop}
    (c : ∀ (s : Src) (h' : Hh) (ρ' : List Addr) (H' : Hp), Mono g ρ H ρ' H' → Sim g ρ' h' H' → Run g ρ' H' k (f s h') → Q s h' ρ' H') : Run g ρ H (ki Q) r := by
  cases r with
  | osr d h' => exact fun ρ' H' m s => c d h' ρ' H' m s (hr.base m)
  | _ => exact (show False from hr).elim
theorem Run.onb {r : R} {f : Bool → Hh → R} (hr : Run g ρ H k (r.onb f)) {Q : Bool → Hp → Prop}
    (c : ∀ (b : Bool) (h' : Hh) (ρ' : List Addr) (H' : Hp), Mono g ρ H ρ' H' → Sim g ρ' h' H' → Run g ρ' H' k (f b h') → Q b H') : RunT g ρ H Q r := by
  cases r with
  | ok d h' =>
    have hr' : Run g ρ H k (match tru h' d with | some b => f b h' | none => .no) := hr
    cases e : tru h' d with
    | none =>
      rw [e] at hr'
      exact (show False from hr').elim
    | some b =>
      rw [e] at hr'
      exact ⟨b, e, fun ρ' H' m s _ => c b h' ρ' H' m s (Run.base m hr')⟩
  | _ => exact (show False from hr).elim
theorem Run.mk {d : D} {h : Hh} {v : V} {Q : VK} (hr : Run g ρ H (ke Q) (.ok d h)) (s : Sim g ρ h H) (r : Rep g ρ H d v) : Q v H := hr ρ H v (Mono.refl _ _ _) s r
/-- a new list -/
theorem Run.newL {ds : List D} {vs : List V} {h : Hh} {Q : VK} {p : Addr} (hr : Run g ρ H (ke Q) (newL h ds)) (s : Sim g ρ h H) (r : Reps g ρ H ds vs) (n : H p = none) : Q (.ref p) (upd H p (.lst vs)) := by
  obtain ⟨s', m, e⟩ := s.push n r
  exact hr _ _ _ m s' (.ptr e)
theorem Rep.mkT {ds : List D} {vs : List V} {a : Addr} (q : SqT g.K H a vs) (r : Reps g ρ H ds vs) : Rep g ρ H (mkT ds) (.ref a) := by
  unfold Ev.mkT
  cases e : ds.any isPtr with
  | true => exact .mtp q r
  | false => exact .pure (.tup q (r.toP e))
theorem sqt_new {K : PySem.W.Frag} {p : Addr} {xs : List V} : SqT K (upd H p (.tup xs)) p xs := SqT.of upd_same
/-- a new tuple -/
theorem Run.newT {ds : List D} {vs : List V} {h : Hh} {Q : VK} {p : Addr} (hr : Run g ρ H (ke Q) (.ok (mkT ds) h)) (s : Sim g ρ h H) (r : Reps g ρ H ds vs) (n : H p = none) : Q (.ref p) (upd H p (.tup vs)) :=
  hr ρ _ _ (Mono.new n) (s.new n) (Rep.mkT sqt_new (r.mono (Mono.new n)))
theorem Run.newTP {ds : List D} {vs : List V} {h : Hh} {Q : VK} {p : Addr} (hr : Run g ρ H (ke Q) (.ok (.tup ds) h)) (s : Sim g ρ h H) (r : RepPs g H ds vs) (n : H p = none) : Q (.ref p) (upd H p (.tup vs)) :=
  hr ρ _ _ (Mono.new n) (s.new n) (.pure (.tup sqt_new (r.mono (mono_new n))))
/-- what is read of a value -/
theorem Rep.int {i : Int} {v : V} (r : Rep g ρ H (.int i) v) : v = .int i := by
  cases r with
  | pure r => cases r; rfl
theorem Rep.bl {i : Bool} {v : V} (r : Rep g ρ H (.bl i) v) : v = .bl i := by
  cases r with
  | pure r => cases r; rfl
theorem Rep.non {v : V} (r : Rep g ρ H .non v) : v = .non := by
  cases r with
  | pure r => cases r; rfl
theorem Rep.tup {ds : List D} {v : V} (r : Rep g ρ H (.tup ds) v) : ∃ (a : Addr) (vs : List V), v = .ref a ∧ SqT g.K H a vs ∧ RepPs g H ds vs := by
  cases r with
  | pure r => cases r with
    | tup s r => exact ⟨_, _, rfl, s, r⟩
theorem Rep.ptr' {n : Nat} {v : V} (r : Rep g ρ H (.ptr n) v) : ∃ p : Addr, v = .ref p ∧ ρ[n]? = some p := by
  cases r with
  | pure r => cases r
  | ptr e => exact ⟨_, rfl, e⟩
theorem Sim.lst {h : Hh} {n : Nat} {v : V} {ds : List D} (s : Sim g ρ h H) (r : Rep g ρ H (.ptr n) v) (e : h[n]? = some ds) : ∃ (p : Addr) (vs : List V), v = .ref p ∧ ρ[n]? = some p ∧ H p = some (.lst vs) ∧ Reps g ρ H ds vs := by
  obtain ⟨p, e1, e2⟩ := r.ptr'
  obtain ⟨vs, h1, h2⟩ := s.get e e2
  exact ⟨p, vs, e1, e2, h1, h2⟩
theorem items_seq {h : Hh} {d : D} {v : V} {ds : List D} (s : Sim g ρ h H) (r : Rep g ρ H d v) (e : itemsOf h d = some ds) :
    ∃ (a : Addr) (vs : List V), v = .ref a ∧ (SqL g.K H a vs ∨ SqT g.K H a vs) ∧ Reps g ρ H ds vs := by
  cases r with
  | pure r =>
    cases r with
    | tup q rr => cases e; exact ⟨_, _, rfl, .inr q, rr.reps⟩
    | frl q rr => cases e; exact ⟨_, _, rfl, .inl q.seq, rr.reps⟩
    | _ => cases e
  | ptr z =>
    obtain ⟨vs, h1, h2⟩ := s.get (show h[_]? = some ds from e) z
    exact ⟨_, vs, rfl, .inl (SqL.of h1), h2⟩
  | mtp q rr => cases e; exact ⟨_, _, rfl, .inr q, rr⟩
end
/-! the state, the readings -/
section
variable (P : Pg) (g : G)
def tE (n : Nat) (e : I) : TE := fun σ H Q => ∃ (ρ : List Addr) (h : Hh) (sg : Sg), Sim g ρ h H ∧ EnvR g ρ H sg σ ∧ Run g ρ H (ke Q) (ev P n e sg h)
def tT (n : Nat) (e : I) : TT := fun σ H Q => ∃ (ρ : List Addr) (h : Hh) (sg : Sg), Sim g ρ h H ∧ EnvR g ρ H sg σ ∧ RunT g ρ H Q (ev P n e sg h)
def tA (n : Nat) (e : I) : TA := fun σ H Q => ∃ (ρ : List Addr) (h : Hh) (sg : Sg), Sim g ρ h H ∧ EnvR g ρ H sg σ ∧ Run g ρ H (ka Q) (ev P n e sg h)
def tS (n : Nat) (e : I) : TS := fun D σ H => ∃ (ρ : List Addr) (h : Hh) (sg : Sg), Sim g ρ h H ∧ EnvR g ρ H sg σ ∧ Run g ρ H (kx D) (ev P n e sg h)
end
theorem PE.imp {X : Cx} {e : Expr} {t t' : TE} (h : PE X e t) (i : ∀ σ H Q, t' σ H Q → t σ H Q) : PE X e t' := ⟨fun pins s σ H Q I w => h.run pins s σ H Q I (i σ H Q w)⟩
theorem PT.imp {X : Cx} {e : Expr} {t t' : TT} (h : PT X e t) (i : ∀ σ H Q, t' σ H Q → t σ H Q) : PT X e t' := ⟨fun pins s σ H Q I w => h.run pins s σ H Q I (i σ H Q w)⟩
theorem PW.imp {X : Cx} {e : Expr} {t t' : TT} (h : PW X e t) (i : ∀ σ H Q, t' σ H Q → t σ H Q) : PW X e t' := ⟨fun wh pins s σ H Q I w => h.run wh pins s σ H Q I (i σ H Q w)⟩
theorem PA.imp {X : Cx} {e : List Expr} {t t' : TA} (h : PA X e t) (i : ∀ σ H Q, t' σ H Q → t σ H Q) : PA X e t' := ⟨fun pos pins s σ H Q I w => h.run pos pins s σ H Q I (i σ H Q w)⟩
theorem PS.imp {X : Cx} {e : Stmt} {t t' : TS} (h : PS X e t) (i : ∀ D σ H, t' D σ H → t D σ H) : PS X e t' := ⟨fun pins s σ H D I w => h.run pins s σ H D I (i D σ H w)⟩
theorem PSs.imp {X : Cx} {e : List Stmt} {t t' : TS} (h : PSs X e t) (i : ∀ D σ H, t' D σ H → t D σ H) : PSs X e t' := ⟨fun pins s σ H D I w => h.run pins s σ H D I (i D σ H w)⟩
end Ev
-- EvR1
/-! rules that the layer lacks: tuple * int for every int -/
namespace Ev
open PySem PySem.Spec PyProof.Rows L2
theorem tuple_mul1 (l : Addr) (items : Array Value) (n : Nat) (dd : Option Addr) (sl : Array (Option Value)) (x : Int) (u : Tok) (c0 : (decide (x < -(2 ^ 63)) || decide (x ≥ 2 ^ 63)) = false) (c1 : (items.isEmpty || x == 1) = true) :
    Meets (Builtin.«tuple.__mul__» ⟨[.ref l, .int x u], []⟩) (fun _ R s => s.heap.get? l = some { cls := .type "tuple", dict := dd, data := .seq items n, slots := sl } ∧
      R (.ok (.ret (Value.ref l))) s) :=
  .of_wp fun prog w A R s h => by
    obtain ⟨hp, g, d, tk, os⟩ := s
    obtain ⟨hl, h⟩ := h
    have f1 := AutoSeq1.idx_int
    wp_walk using wpAny_loadPart' hl
    repeat (first
      | (refine wpAny_ite_false (decide_eq_false (by rw [c0]; exact Bool.false_ne_true)) ?_; wp_walk using wpAny_loadPart' hl)
      | (refine wpAny_ite_true (decide_eq_true (by rw [c1])) ?_; wp_walk using wpAny_loadPart' hl))
    exact ⟨_, rfl, h⟩
theorem tuple_mul0 (l : Addr) (items : Array Value) (n : Nat) (dd : Option Addr) (sl : Array (Option Value)) (x : Int) (u : Tok) (c0 : (decide (x < -(2 ^ 63)) || decide (x ≥ 2 ^ 63)) = false) (c1 : (items.isEmpty || x == 1) = false) (c2 : (decide (x ≤ 0) || items.isEmpty) = true) :
    Meets (Builtin.«tuple.__mul__» ⟨[.ref l, .int x u], []⟩) (fun _ R s => s.heap.get? l = some { cls := .type "tuple", dict := dd, data := .seq items n, slots := sl } ∧
      R (.ok (.ret (Value.ref s.heap.objs.size))) { s with heap := s.heap.push { cls := Value.type "tuple", data := Data.seq #[] }, toks := s.toks }) :=
  .of_wp fun prog w A R s h => by
    obtain ⟨hp, g, d, tk, os⟩ := s
    obtain ⟨hl, h⟩ := h
    have f1 := AutoSeq1.idx_int
    wp_walk using wpAny_loadPart' hl
    repeat (first
      | (refine wpAny_ite_false (decide_eq_false (by rw [c0]; exact Bool.false_ne_true)) ?_; wp_walk using wpAny_loadPart' hl)
      | (refine wpAny_ite_false (decide_eq_false (by rw [c1]; exact Bool.false_ne_true)) ?_; wp_walk using wpAny_loadPart' hl)
      | (refine wpAny_ite_true (decide_eq_true (by rw [c2])) ?_; wp_walk using wpAny_loadPart' hl))
    exact ⟨_, rfl, h⟩
def rRepTA (K : PySem.W.Frag) : R2 := fun x y H Q => ∃ (l : Addr) (k : Int) (xs : List V), x = .ref l ∧ y = .int k ∧ SqT K H l xs ∧ k.natAbs < 2 ^ 62 ∧ xs.length * k.toNat ≤ sizeLine ∧
  (SqT K H l (List.replicate k.toNat xs).flatten → Q (.ref l) H) ∧ ∀ p, H p = none → Q (.ref p) (upd H p (.tup (List.replicate k.toNat xs).flatten))
theorem op_repTA {X : Cx} : OpR X (binaryOp .Mult) (rRepTA X.K) := by
  intro pins s σ H x y v u Q I rx ry h
  obtain ⟨l, k, xs, rfl, rfl, hT, hk, hz, q0, q⟩ := h
  cases rx
  obtain ⟨t, rfl⟩ := ry
  obtain ⟨its, r, ⟨⟨cls, dd, data, sl⟩, ho, hc, n, hd⟩, hs⟩ := I.tuple hT
  simp only at hc hd
  subst hc hd
  have hle : its.length = xs.length := r.length.symm
  have hsz0 : its.toArray.size = xs.length := by rw [List.size_toArray, hle]
  have c0 : (decide (k < -(2 ^ 63)) || decide (k ≥ 2 ^ 63)) = false := by
    rw [decide_eq_false (by omega), decide_eq_false (by omega)] <;> rfl
  have go : ∀ {R : Value → Shared → Prop}, Meets (Builtin.«tuple.__mul__» ⟨[.ref l, .int k t], []⟩) (fun _ R s => s.heap.get? l = some { cls := .type "tuple", dict := dd, data := .seq its.toArray n, slots := sl } ∧ ∃ v s', (R (.ok (.ret v)) s' ∧ EP X pins σ Q v s')) → True := fun _ => trivial
  refine wpAny_binaryOp_repeat_ref (T := "tuple") (U := "int") (by decide) ⟨_, ho, rfl⟩ (fun s' => typeIs_int s' k t) noFill_tuple_mul F.fills_int_mul F.slot_int_rmul repeat_tuple F.slot_int_index.lookup
    (call_meets F.slot_int_rmul (typeIs_int s k t) F.entry_int_rmul (F.args_int_rmul_2 _ _) (int_rmul_tuple k t l its.toArray n dd sl)
      ⟨ho, rfl, ⟨_, ho, rfl⟩, ?_⟩)
  cases c1 : (its.toArray.isEmpty || k == 1) with
  | true =>
    refine call_meets F.slot_tuple_mul ⟨_, ho, rfl⟩ F.entry_tuple_mul (F.args_tuple_mul_2 _ _) (tuple_mul1 l its.toArray n dd sl k t c0 c1) ⟨ho, ?_⟩
    refine ⟨.ref l, H, I.tok _, rfl, q0 ?_⟩
    rcases Bool.or_eq_true_iff.mp c1 with e | e
    · have en : xs = [] := by
        have : its = [] := by simpa using e
        rw [this] at hle
        exact List.eq_nil_of_length_eq_zero hle.symm
      subst en
      have : (List.replicate k.toNat ([] : List V)).flatten = [] := by simp
      rw [this]
      exact hT
    · have : k = 1 := by simpa using e
      subst this
      have : (List.replicate (1 : Int).toNat xs).flatten = xs := by simp
      rw [this]
      exact hT
  | false =>
    obtain ⟨e1, e2⟩ := Bool.or_eq_false_iff.mp c1
    cases c2 : (decide (k ≤ 0) || its.toArray.isEmpty) with
    | true =>
      refine call_meets F.slot_tuple_mul ⟨_, ho, rfl⟩ F.entry_tuple_mul (F.args_tuple_mul_2 _ _) (tuple_mul0 l its.toArray n dd sl k t c0 c1 c2) ⟨ho, ?_⟩
      have k0 : k.toNat = 0 := by
        rw [e1, Bool.or_false] at c2
        have := of_decide_eq_true c2
        omega
      have q' := q s.heap.objs.size (I.hok.fresh (Nat.le_refl _))
      rw [k0] at q'
      refine ⟨.ref s.heap.objs.size, _, I.laid (t' := s.toks) (o := .tup (List.replicate 0 xs).flatten) (fun b ob q => Heap.get?_push_of_some _ q) (Nat.le_refl _) ?_, rfl, q'⟩
      exact ⟨by simp, [], by simpa using Paired.nil, IsTup.new _ _⟩
    | false =>
      obtain ⟨d1, d2⟩ := Bool.or_eq_false_iff.mp c2
      have kp : 0 < k := by have := of_decide_eq_false d1; omega
      have hm : ((its.toArray.size : Nat) : Int) * k ≤ sizeLine := by
        rw [hsz0]
        have : ((xs.length * k.toNat : Nat) : Int) ≤ sizeLine := by exact_mod_cast hz
        rw [Int.natCast_mul, Int.toNat_of_nonneg (by omega)] at this
        exact this
      have sl0 : (sizeLine : Nat) = 16777216 := sizeLine_eq
      have flen : (List.replicate k.toNat its).flatten.length ≤ sizeLine := by
        rw [PyProof.Rows.lm_len_rep_flat, hle, Nat.mul_comm]
        exact hz
      have c4 : Builtin.Tuple.tupleTooMany (((its.toArray.size : Nat) : Int) * k) = false := by
        unfold Builtin.Tuple.tupleTooMany
        exact decide_eq_false (by omega)
      refine call_meets F.slot_tuple_mul ⟨_, ho, rfl⟩ F.entry_tuple_mul (F.args_tuple_mul_2 _ _) (tuple_mulW l its.toArray n dd sl k t c0 c1 c2 (by omega) c4 (by rw [size_rep, List.size_toArray]; exact flen)) ⟨ho, ?_⟩
      rw [size_rep]
      refine ⟨.ref s.heap.objs.size, _, I.laid (t' := s.toks) (o := .tup (List.replicate k.toNat xs).flatten) (fun b ob q => Heap.get?_push_of_some _ q) (Nat.le_refl _) ?_, rfl, q _ (I.hok.fresh (Nat.le_refl _))⟩
      exact ⟨by rw [PyProof.Rows.lm_len_rep_flat, Nat.mul_comm]; exact hz, _, r.rep k.toNat, IsTup.new _ _⟩
/-! a dict of the written part with int keys -/
def KI (K : PySem.W.Frag) (a : Addr) (i : Int) (v : V) : Prop :=
  ∃ (es : Array DictEntry) (n : Nat) (u : Value), K.lookup a = some ⟨.type "dict", none, .dict es n, #[]⟩ ∧ (∀ e ∈ es.toList, ∃ (j : Int) (t : Tok), e.key = .int j t ∧ e.hash = hashInt j) ∧ findBy Value.isInt es i = some u ∧ RelV v u
def rIxI (K : PySem.W.Frag) : R2 := fun x y H Q => ∃ (p : Addr) (i : Int) (v : V), x = .ref p ∧ y = .int i ∧ KI K p i v ∧ Q v H
theorem ix_kint {X : Cx} : IxR X (rIxI X.K) := by
  intro value slice pins s σ H x y v u Q I rx ry h hs
  obtain ⟨p, i, r, rfl, rfl, ⟨es, n, u0, hl, hk, e, ru⟩, q⟩ := h
  obtain rfl : v = Value.ref p := rx
  obtain ⟨t, rfl⟩ := ry
  have hm : s.heap.MapOf (intKind X.prog X.w) p (fun k => findBy Value.isInt es k) := ⟨_, es, n, I.kIn _ _ hl, ⟨rfl, rfl, rfl⟩, rfl, fun e he => by
    obtain ⟨j, t, e1, e2⟩ := hk e (Array.mem_toList_iff.mpr he)
    exact ⟨j, by rw [e1]; simp [intKind, Value.isInt], e2⟩, fun _ => rfl⟩
  exact tail_any hm.typeIs slot_dict_getitem.lookup (wpAny_getItem_of (by simp [intKind, Value.isInt]) hm e ⟨r, H, I.tok _, ru, q⟩) hs
end Ev
-- EvE
/-! operators -/
namespace Ev
open PySem PySem.Spec PyProof.Rows L2
theorem line_eq : line = sizeLine := sizeLine_eq.symm
theorem line_le {n : Nat} (h : Nat.ble n line = true) : n ≤ sizeLine := by
  rw [← line_eq]
  exact Nat.le_of_ble_eq_true h
theorem smallI_ok {i : Int} (h : smallI i = true) : -(2 ^ 64) < i ∧ i < 2 ^ 64 := by
  have := Nat.le_of_ble_eq_true (show Nat.ble (i.natAbs + 1) (2 ^ 64) = true from h)
  omega
theorem mulOk_ok {i j : Int} (h : mulOk i j = true) : IntMulOk i j := by
  rcases Bool.or_eq_true_iff.mp h with h | h
  · exact CMul.ok (.inl (smallI_ok h))
  · exact CMul.ok (.inr (smallI_ok h))
theorem posI_ok {j : Int} (h : posI j = true) : 0 < j := by
  match j, h with
  | .ofNat (n + 1), _ => exact Int.natCast_pos.mpr (Nat.succ_pos n)
theorem divOk_ok {i j : Int} (h : divOk j = true) : CDivW i j := by
  obtain ⟨h1, h2⟩ := Bool.and_eq_true_iff.mp h
  exact wide_div (b := 8000) (posI_ok h1) (Nat.le_of_ble_eq_true h2) (by decide) (by decide)
theorem op_powE {X : Cx} : OpR X (binaryOp .Pow) (rI (fun i j => powOk i j = true) fun i j => .int (i ^ j.toNat)) := opI fun i j _ _ _ _ _ hc q => by
  match j, hc with
  | .ofNat n, hc =>
    obtain ⟨h1, h2⟩ := Bool.and_eq_true_iff.mp (show (Nat.ble n 1000 && Nat.blt i.natAbs (2 ^ 1000)) = true from hc)
    have n1 := Nat.le_of_ble_eq_true h1
    have n2 : i.natAbs < 2 ^ 1000 := Nat.le_of_ble_eq_true h2
    refine pow_int (by exact Int.natCast_nonneg n) ?_ q
    have b : Builtin.Int.intBits i ≤ 1000 := by
      have := PySem.Flt.log2_lt_of (by decide) n2
      unfold Builtin.Int.intBits
      split <;> omega
    have : ((Builtin.Int.intBits i : Nat) : Int) * ((n : Nat) : Int) ≤ ((1000 * 1000 : Nat) : Int) := by
      have := Nat.mul_le_mul b n1
      rw [← Int.natCast_mul]
      exact Int.ofNat_le.mpr this
    exact Int.le_trans this (by decide)
def bopOf : BOp → Operator
  | .add => .Add
  | .sub => .Sub
  | .mul => .Mult
  | .mod => .Mod
  | .fdiv => .FloorDiv
  | .pow => .Pow
theorem bopB_ok {o : BOp} {p : Operator} (h : bopB o p = true) : p = bopOf o := by
  cases o <;> cases p <;> first | rfl | cases h
section
variable {g : G}
def rBin (g : G) (o : BOp) : R2 := fun x y H Q => ∃ (ρ : List Addr) (h : Hh) (d e : D), Sim g ρ h H ∧ Rep g ρ H d x ∧ Rep g ρ H e y ∧ Run g ρ H (ke Q) (binop o d e h)
theorem catO_ok {ds es fs : List D} (h : catO ds es = some fs) : ds.length + es.length ≤ sizeLine ∧ fs = ds ++ es := by
  unfold catO at h
  cases e : Nat.ble (ds.length + es.length) line with
  | true =>
    rw [e] at h
    exact ⟨line_le e, (Option.some.inj h).symm⟩
  | false =>
    rw [e] at h
    cases h
theorem repO_ok {ds fs : List D} {k : Int} (h : repO ds k = some fs) : ds.length * k.toNat ≤ sizeLine ∧ k.natAbs < 2 ^ 62 ∧ fs = (List.replicate k.toNat ds).flatten := by
  unfold repO at h
  cases e : Nat.ble (ds.length * k.toNat) line && Nat.blt k.natAbs (2 ^ 62) with
  | true =>
    rw [e] at h
    obtain ⟨e1, e2⟩ := Bool.and_eq_true_iff.mp e
    exact ⟨line_le e1, Nat.le_of_ble_eq_true e2, (Option.some.inj h).symm⟩
  | false =>
    rw [e] at h
    cases h
theorem RepPs.length {H : Hp} : ∀ {ds : List D} {vs : List V}, RepPs g H ds vs → ds.length = vs.length
  | _, _, .nil => rfl
  | _, _, .cons _ s => congrArg Nat.succ (RepPs.length s)
theorem RepPs.append {H : Hp} : ∀ {ds es : List D} {vs ws : List V}, RepPs g H ds vs → RepPs g H es ws → RepPs g H (ds ++ es) (vs ++ ws)
  | _, _, _, _, .nil, t => t
  | _, _, _, _, .cons r s, t => .cons r (RepPs.append s t)
theorem RepPs.rep {H : Hp} {ds : List D} {vs : List V} (r : RepPs g H ds vs) : ∀ n : Nat, RepPs g H (List.replicate n ds).flatten (List.replicate n vs).flatten
  | 0 => .nil
  | n + 1 => by
    rw [List.replicate_succ, List.replicate_succ, List.flatten_cons, List.flatten_cons]
    exact r.append (RepPs.rep r n)
theorem RepPs.take {H : Hp} : ∀ {ds : List D} {vs : List V} (n : Nat), RepPs g H ds vs → RepPs g H (ds.take n) (vs.take n)
  | _, _, 0, _ => .nil
  | _, _, _ + 1, .nil => .nil
  | _, _, n + 1, .cons r t => .cons r (RepPs.take n t)
theorem RepPs.drop {H : Hp} : ∀ {ds : List D} {vs : List V} (n : Nat), RepPs g H ds vs → RepPs g H (ds.drop n) (vs.drop n)
  | _, _, 0, r => r
  | _, _, _ + 1, .nil => .nil
  | _, _, n + 1, .cons _ t => RepPs.drop n t
theorem op_bin {X : Cx} (hK : X.K = g.K) (o : BOp) : OpR X (binaryOp (bopOf o)) (rBin g o) := by
  intro pins s σ H x y v u Q I rx ry hr
  obtain ⟨ρ, h, d, e, sim, rd, re, hr⟩ := hr
  cases o with
  | add =>
    cases d with
    | int i =>
      cases e with
      | int j =>
        obtain rfl := rd.int
        obtain rfl := re.int
        exact op_add pins s σ H _ _ v u Q I rx ry ⟨i, j, rfl, rfl, hr.mk sim (.pure (.int _))⟩
      | _ => exact (show False from hr).elim
    | tup ds =>
      cases e with
      | tup es =>
        obtain ⟨a, vs, rfl, qa, ra⟩ := rd.tup
        obtain ⟨b, ws, rfl, qb, rb⟩ := re.tup
        have hr' : Run g ρ H (ke Q) (match catO ds es with | some fs => .ok (.tup fs) h | none => .no) := hr
        cases c : catO ds es with
        | none => rw [c] at hr'; exact (show False from hr').elim
        | some fs =>
          rw [c] at hr'
          obtain ⟨z, rfl⟩ := catO_ok c
          have r := ra.append rb
          rw [← hK] at qa qb
          refine op_catA pins s σ H _ _ v u Q I rx ry ⟨a, b, vs, ws, rfl, rfl, qa, qb, by rw [← ra.length, ← rb.length]; exact z, fun e0 => ?_, fun _ e0 => ?_, fun _ _ p n => hr'.newTP sim r n⟩
          · subst e0
            rw [hK] at qb
            exact hr'.mk sim (.pure (.tup qb r))
          · subst e0
            rw [List.append_nil] at r
            rw [hK] at qa
            exact hr'.mk sim (.pure (.tup qa r))
      | _ => exact (show False from hr).elim
    | ptr a =>
      cases e with
      | ptr b =>
        have hr' : Run g ρ H (ke Q) (match h[a]?, h[b]? with | some ds, some es => (match catO ds es with | some fs => newL h fs | none => .no) | _, _ => .no) := hr
        cases ea : h[a]? with
        | none => rw [ea] at hr'; exact (show False from hr').elim
        | some ds =>
          cases eb : h[b]? with
          | none => rw [ea, eb] at hr'; exact (show False from hr').elim
          | some es =>
            rw [ea, eb] at hr'
            have hr2 : Run g ρ H (ke Q) (match catO ds es with | some fs => newL h fs | none => .no) := hr'
            cases c : catO ds es with
            | none => rw [c] at hr2; exact (show False from hr2).elim
            | some fs =>
              rw [c] at hr2
              obtain ⟨z, rfl⟩ := catO_ok c
              obtain ⟨p, vs, rfl, _, hp, ra⟩ := sim.lst rd ea
              obtain ⟨q, ws, rfl, _, hq, rb⟩ := sim.lst re eb
              exact op_cat pins s σ H _ _ v u Q I rx ry ⟨p, q, vs, ws, rfl, rfl, hp, hq, by rw [← ra.length, ← rb.length]; exact z, fun p' n => Run.newL hr2 sim (ra.append rb) n⟩
      | _ => exact (show False from hr).elim
    | _ => exact (show False from hr).elim
  | sub =>
    cases d with
    | int i =>
      cases e with
      | int j =>
        obtain rfl := rd.int
        obtain rfl := re.int
        exact op_sub pins s σ H _ _ v u Q I rx ry ⟨i, j, rfl, rfl, hr.mk sim (.pure (.int _))⟩
      | _ => exact (show False from hr).elim
    | _ => exact (show False from hr).elim
  | mul =>
    cases d with
    | int i =>
      cases e with
      | int j =>
        obtain rfl := rd.int
        obtain rfl := re.int
        have hr' : Run g ρ H (ke Q) (match mulOk i j with | true => .ok (.int (i * j)) h | false => .no) := hr
        cases c : mulOk i j with
        | false => rw [c] at hr'; exact (show False from hr').elim
        | true =>
          rw [c] at hr'
          obtain ⟨t, rfl⟩ := rx
          obtain ⟨t', rfl⟩ := ry
          exact mul_int ⟨.int (i * j), H, I.tok _, ⟨_, rfl⟩, hr'.mk sim (.pure (.int _))⟩ (mulOk_ok c)
      | _ => exact (show False from hr).elim
    | tup ds =>
      cases e with
      | int k =>
        obtain ⟨a, vs, rfl, qa, ra⟩ := rd.tup
        obtain rfl := re.int
        have hr' : Run g ρ H (ke Q) (match repO ds k with | some fs => .ok (.tup fs) h | none => .no) := hr
        cases c : repO ds k with
        | none => rw [c] at hr'; exact (show False from hr').elim
        | some fs =>
          rw [c] at hr'
          obtain ⟨z, zk, rfl⟩ := repO_ok c
          have r := ra.rep k.toNat
          rw [← hK] at qa
          exact op_repTA pins s σ H _ _ v u Q I rx ry ⟨a, k, vs, rfl, rfl, qa, zk, by rw [← ra.length]; exact z, fun q => hr'.mk sim (.pure (.tup (by rw [← hK]; exact q) r)), fun p n => hr'.newTP sim r n⟩
      | _ => exact (show False from hr).elim
    | ptr a =>
      cases e with
      | int k =>
        obtain rfl := re.int
        have hr' : Run g ρ H (ke Q) (match h[a]? with | some ds => (match repO ds k with | some fs => newL h fs | none => .no) | none => .no) := hr
        cases ea : h[a]? with
        | none => rw [ea] at hr'; exact (show False from hr').elim
        | some ds =>
          rw [ea] at hr'
          have hr2 : Run g ρ H (ke Q) (match repO ds k with | some fs => newL h fs | none => .no) := hr'
          cases c : repO ds k with
          | none => rw [c] at hr2; exact (show False from hr2).elim
          | some fs =>
            rw [c] at hr2
            obtain ⟨z, zk, rfl⟩ := repO_ok c
            obtain ⟨p, vs, rfl, _, hp, ra⟩ := sim.lst rd ea
            exact op_rep pins s σ H _ _ v u Q I rx ry ⟨p, k, vs, rfl, rfl, hp, by omega, by omega, by rw [← ra.length]; exact z, fun p' n => Run.newL hr2 sim (ra.rep k.toNat) n⟩
      | _ => exact (show False from hr).elim
    | _ => exact (show False from hr).elim
  | mod =>
    cases d with
    | int i =>
      cases e with
      | int j =>
        obtain rfl := rd.int
        obtain rfl := re.int
        have hr' : Run g ρ H (ke Q) (match posI j with | true => .ok (.int (i % j)) h | false => .no) := hr
        cases c : posI j with
        | false => rw [c] at hr'; exact (show False from hr').elim
        | true =>
          rw [c] at hr'
          exact op_mod pins s σ H _ _ v u Q I rx ry ⟨i, j, rfl, rfl, posI_ok c, hr'.mk sim (.pure (.int _))⟩
      | _ => exact (show False from hr).elim
    | _ => exact (show False from hr).elim
  | fdiv =>
    cases d with
    | int i =>
      cases e with
      | int j =>
        obtain rfl := rd.int
        obtain rfl := re.int
        have hr' : Run g ρ H (ke Q) (match divOk j with | true => .ok (.int (i / j)) h | false => .no) := hr
        cases c : divOk j with
        | false => rw [c] at hr'; exact (show False from hr').elim
        | true =>
          rw [c] at hr'
          exact op_fdivW pins s σ H _ _ v u Q I rx ry ⟨i, j, rfl, rfl, divOk_ok c, hr'.mk sim (.pure (.int _))⟩
      | _ => exact (show False from hr).elim
    | _ => exact (show False from hr).elim
  | pow =>
    cases d with
    | int i =>
      cases e with
      | int j =>
        obtain rfl := rd.int
        obtain rfl := re.int
        have hr' : Run g ρ H (ke Q) (match powOk i j with | true => .ok (.int (i ^ j.toNat)) h | false => .no) := hr
        cases c : powOk i j with
        | false => rw [c] at hr'; exact (show False from hr').elim
        | true =>
          rw [c] at hr'
          exact op_powE pins s σ H _ _ v u Q I rx ry ⟨i, j, rfl, rfl, c, hr'.mk sim (.pure (.int _))⟩
      | _ => exact (show False from hr).elim
    | _ => exact (show False from hr).elim
end
end Ev
-- EvF
/-! comparisons, truth, indices, slices, built-ins -/
namespace Ev
open PySem PySem.Spec PyProof.Rows L2
theorem mapO_cons {f : D → Option PyData} {d : D} {ds : List D} {ps : List PyData} (h : mapO f (d :: ds) = some ps) : ∃ p qs, f d = some p ∧ mapO f ds = some qs ∧ ps = p :: qs := by
  unfold mapO at h
  cases e : f d with
  | none => rw [e] at h; cases h
  | some p =>
    rw [e] at h
    cases e2 : mapO f ds with
    | none => rw [e2] at h; cases h
    | some qs =>
      rw [e2] at h
      exact ⟨p, qs, rfl, rfl, (Option.some.inj h).symm⟩
section
variable {g : G} {ρ : List Addr} {H : Hp} {h : Hh}
theorem depthAll_cons (p : PyData) (ps : List PyData) : PyData.depthAll (p :: ps) = max (PyData.depth p) (PyData.depthAll ps) := rfl
theorem mapO_dp {n : Nat} (ih : ∀ (d : D) (v : V) (p : PyData), Rep g ρ H d v → py h n d = some p → Dp g.K H v p ∧ p.depth ≤ n) :
    ∀ {ds : List D} {vs : List V} {ps : List PyData}, Reps g ρ H ds vs → mapO (py h n) ds = some ps → DpAll g.K H vs ps ∧ PyData.depthAll ps ≤ n
  | _, _, _, .nil, e => by
    cases e
    exact ⟨.nil, Nat.zero_le _⟩
  | _, _, _, .cons r s, e => by
    obtain ⟨p, qs, e1, e2, rfl⟩ := mapO_cons e
    obtain ⟨a1, a2⟩ := ih _ _ _ r e1
    obtain ⟨b1, b2⟩ := mapO_dp ih s e2
    exact ⟨.cons a1 b1, by rw [depthAll_cons]; omega⟩
theorem py_dp (sim : Sim g ρ h H) : ∀ (n : Nat) (d : D) (v : V) (p : PyData), Rep g ρ H d v → py h n d = some p → Dp g.K H v p ∧ p.depth ≤ n
  | 0, d, v, p, _, e => by cases e
  | n + 1, d, v, p, r, e => by
    have ih := py_dp sim n
    unfold py at e
    cases r with
    | pure r =>
      cases r with
      | non => cases e; exact ⟨.non, Nat.zero_le _⟩
      | bl b => cases e; exact ⟨.bl b, Nat.zero_le _⟩
      | int i => cases e; exact ⟨.int i, Nat.zero_le _⟩
      | str x => cases e; exact ⟨.str x, Nat.zero_le _⟩
      | ty n => cases e
      | fn n => cases e
      | emp hp => cases e
      | @tup a vs ds q rr =>
        dsimp only at e
        cases c : mapO (py h n) ds with
        | none => rw [c] at e; cases e
        | some ps =>
          rw [c] at e
          cases e
          obtain ⟨a1, a2⟩ := mapO_dp ih rr.reps c
          exact ⟨.tup q a1, Nat.succ_le_succ a2⟩
      | @frl a vs ds q rr =>
        dsimp only at e
        cases c : mapO (py h n) ds with
        | none => rw [c] at e; cases e
        | some ps =>
          rw [c] at e
          cases e
          obtain ⟨a1, a2⟩ := mapO_dp ih rr.reps c
          exact ⟨.lst q.seq a1, Nat.succ_le_succ a2⟩
    | @ptr a p' z =>
      dsimp only at e
      cases c0 : h[a]? with
      | none => rw [c0] at e; cases e
      | some ds =>
        rw [c0] at e
        dsimp only at e
        cases c : mapO (py h n) ds with
        | none => rw [c] at e; cases e
        | some ps =>
          rw [c] at e
          cases e
          obtain ⟨vs, h1, h2⟩ := sim.get c0 z
          obtain ⟨a1, a2⟩ := mapO_dp ih h2 c
          exact ⟨.lst (SqL.of h1) a1, Nat.succ_le_succ a2⟩
    | @mtp a vs ds q rr =>
      dsimp only at e
      cases c : mapO (py h n) ds with
      | none => rw [c] at e; cases e
      | some ps =>
        rw [c] at e
        cases e
        obtain ⟨a1, a2⟩ := mapO_dp ih rr c
        exact ⟨.tup q a1, Nat.succ_le_succ a2⟩
theorem pyEq_ok {d e : D} {x y : V} {b : Bool} (sim : Sim g ρ h H) (rd : Rep g ρ H d x) (re : Rep g ρ H e y) (c : pyEq h d e = some b) :
    ∃ p q, Dp g.K H x p ∧ Dp g.K H y q ∧ SeqAt.shaped p = true ∧ SeqAt.shaped q = true ∧ PyData.eqv p q = b := by
  unfold pyEq at c
  cases c1 : py h 20 d with
  | none => rw [c1] at c; cases c
  | some p =>
    cases c2 : py h 20 e with
    | none => rw [c1, c2] at c; cases c
    | some q =>
      rw [c1, c2] at c
      dsimp only at c
      cases c3 : p.canLay0 && q.canLay0 with
      | false => rw [c3] at c; cases c
      | true =>
        rw [c3] at c
        obtain ⟨l1, l2⟩ := Bool.and_eq_true_iff.mp c3
        obtain ⟨a1, a2⟩ := py_dp sim 20 d x p rd c1
        obtain ⟨b1, b2⟩ := py_dp sim 20 e y q re c2
        exact ⟨p, q, a1, b1, Bool.and_eq_true_iff.mpr ⟨l1, decide_eq_true (by omega)⟩, Bool.and_eq_true_iff.mpr ⟨l2, decide_eq_true (by omega)⟩, Option.some.inj c⟩
theorem flat_of {d : D} {v : V} (r : Rep g ρ H d v) (f : flatD d = true) : flatV v = true := by
  cases r with
  | pure r => cases r <;> first | rfl | cases f
  | ptr _ => cases f
  | mtp _ _ => cases f
theorem flats_of : ∀ {ds : List D} {vs : List V}, Reps g ρ H ds vs → ds.all flatD = true → vs.all flatV = true
  | _, _, .nil, _ => rfl
  | _, _, .cons r s, f => by
    rw [List.all_cons, Bool.and_eq_true_iff] at f ⊢
    exact ⟨flat_of r f.1, flats_of s f.2⟩
theorem flatE_of {d e : D} {v w : V} (rd : Rep g ρ H d v) (re : Rep g ρ H e w) (fd : flatD d = true) (fe : flatD e = true) : eqV v w = flatE d e := by
  cases rd with
  | pure rd =>
    cases re with
    | pure re =>
      cases rd <;> cases re <;> first | rfl | cases fd | cases fe
    | ptr _ => cases fe
    | mtp _ _ => cases fe
  | ptr _ => cases fd
  | mtp _ _ => cases fd
theorem flatEs_of {d : D} {v : V} (rd : Rep g ρ H d v) (fd : flatD d = true) : ∀ {ds : List D} {vs : List V}, Reps g ρ H ds vs → ds.all flatD = true → inV v vs = ds.any fun y => flatE y d
  | _, _, .nil, _ => rfl
  | _, _, .cons r s, f => by
    rw [List.all_cons, Bool.and_eq_true_iff] at f
    have ih := flatEs_of rd fd s f.2
    unfold inV at ih ⊢
    rw [List.any_cons, List.any_cons, ih, flatE_of r rd f.1 fd]
def copOf : COp → CmpOp
  | .eq => .Eq
  | .ne => .NotEq
  | .lt => .Lt
  | .le => .LtE
  | .gt => .Gt
  | .ge => .GtE
  | .inn => .In
  | .nin => .NotIn
  | .isN => .Is
  | .notN => .IsNot
theorem copB_ok {o : COp} {p : CmpOp} (h : copB o p = true) : p = copOf o := by
  cases o <;> cases p <;> first | rfl | cases h
def rCop (g : G) (o : COp) : R2 := fun x y H Q => ∃ (ρ : List Addr) (h : Hh) (d e : D), Sim g ρ h H ∧ Rep g ρ H d x ∧ Rep g ρ H e y ∧ Run g ρ H (ke Q) (cmpop o d e h)
theorem Run.oB {o : Option Bool} {f : Bool → Bool} {Q : VK} (hr : Run g ρ H (ke Q) (oB o f h)) (sim : Sim g ρ h H) : ∃ b, o = some b ∧ Q (.bl (f b)) H := by
  cases o with
  | none => exact (show False from hr).elim
  | some b => exact ⟨b, rfl, Run.mk (show Run g ρ H (ke Q) (.ok (.bl (f b)) h) from hr) sim (.pure (.bl _))⟩
theorem Run.intI {d e : D} {x y : V} {f : Int → Int → Bool} {Q : VK} (hr : Run g ρ H (ke Q) (intI d e f h)) (sim : Sim g ρ h H) (rd : Rep g ρ H d x) (re : Rep g ρ H e y) : ∃ i j, x = .int i ∧ y = .int j ∧ Q (.bl (f i j)) H := by
  cases d with
  | int i =>
    cases e with
    | int j => exact ⟨i, j, rd.int, re.int, Run.mk (show Run g ρ H (ke Q) (.ok (.bl (f i j)) h) from hr) sim (.pure (.bl _))⟩
    | _ => exact (show False from hr).elim
  | _ => exact (show False from hr).elim
theorem isNon_ok {d : D} {v : V} {b : Bool} (r : Rep g ρ H d v) (e : isNon d = some b) : decide (v = .non) = b := by
  cases r with
  | pure r => cases r <;> first | (cases e; rfl) | (cases e; simp)
  | ptr _ => cases e; simp
  | mtp _ _ => cases e; simp
theorem memH_ok {d e : D} {x y : V} {b : Bool} (sim : Sim g ρ h H) (rd : Rep g ρ H d x) (re : Rep g ρ H e y) (c : memH h d e = some b) :
    ∃ (p : Addr) (xs : List V), y = .ref p ∧ (SqL g.K H p xs ∨ SqT g.K H p xs) ∧ flatV x = true ∧ xs.all flatV = true ∧ inV x xs = b := by
  unfold memH at c
  cases c1 : flatD d with
  | false => rw [c1] at c; cases c
  | true =>
    cases c2 : itemsOf h e with
    | none => rw [c1, c2] at c; cases c
    | some ds =>
      rw [c1, c2] at c
      dsimp only at c
      cases c3 : ds.all flatD with
      | false => rw [c3] at c; cases c
      | true =>
        rw [c3] at c
        obtain ⟨a, vs, rfl, q, rr⟩ := items_seq sim re c2
        refine ⟨a, vs, rfl, q, flat_of rd c1, flats_of rr c3, ?_⟩
        rw [flatEs_of rd c1 rr c3]
        exact Option.some.inj c
end
section
variable {g : G}
theorem op_cop {X : Cx} (hK : X.K = g.K) (hu : X.A.units + 64 < cLine) (o : COp) : OpR X (compareOp (copOf o)) (rCop g o) := by
  intro pins s σ H x y v u Q I rx ry hr
  obtain ⟨ρ, h, d, e, sim, rd, re, hr⟩ := hr
  cases o with
  | eq =>
    obtain ⟨b, eb, q⟩ := Run.oB (f := fun b => b) (h := h) hr sim
    obtain ⟨p, p', a1, a2, a3, a4, a5⟩ := pyEq_ok sim rd re eb
    rw [← hK] at a1 a2
    exact op_eqD hu pins s σ H x y v u Q I rx ry ⟨p, p', a1, a2, a3, a4, by rw [a5]; exact q⟩
  | ne =>
    obtain ⟨b, eb, q⟩ := Run.oB (f := fun b => !b) (h := h) hr sim
    obtain ⟨p, p', a1, a2, a3, a4, a5⟩ := pyEq_ok sim rd re eb
    rw [← hK] at a1 a2
    exact op_neD hu pins s σ H x y v u Q I rx ry ⟨p, p', a1, a2, a3, a4, by rw [a5]; exact q⟩
  | lt => exact op_lt pins s σ H x y v u Q I rx ry (Run.intI (f := fun i j => decide (i < j)) (h := h) hr sim rd re)
  | le => exact op_le pins s σ H x y v u Q I rx ry (Run.intI (f := fun i j => decide (i ≤ j)) (h := h) hr sim rd re)
  | gt => exact op_gt pins s σ H x y v u Q I rx ry (Run.intI (f := fun i j => decide (j < i)) (h := h) hr sim rd re)
  | ge => exact op_ge pins s σ H x y v u Q I rx ry (Run.intI (f := fun i j => decide (j ≤ i)) (h := h) hr sim rd re)
  | inn =>
    obtain ⟨b, eb, q⟩ := Run.oB (f := fun b => b) (h := h) hr sim
    obtain ⟨p, xs, a1, a2, a3, a4, a5⟩ := memH_ok sim rd re eb
    rw [← hK] at a2
    exact op_in_seq pins s σ H x y v u Q I rx ry ⟨p, xs, a1, a2, a3, a4, by rw [a5]; exact q⟩
  | nin =>
    obtain ⟨b, eb, q⟩ := Run.oB (f := fun b => !b) (h := h) hr sim
    obtain ⟨p, xs, a1, a2, a3, a4, a5⟩ := memH_ok sim rd re eb
    rw [← hK] at a2
    exact op_notIn_seq pins s σ H x y v u Q I rx ry ⟨p, xs, a1, a2, a3, a4, by rw [a5]; exact q⟩
  | isN =>
    cases e with
    | non =>
      obtain ⟨b, eb, q⟩ := Run.oB (f := fun b => b) (h := h) hr sim
      exact op_isN pins s σ H x y v u Q I rx ry ⟨re.non, by rw [isNon_ok rd eb]; exact q⟩
    | _ => exact (show False from hr).elim
  | notN =>
    cases e with
    | non =>
      obtain ⟨b, eb, q⟩ := Run.oB (f := fun b => !b) (h := h) hr sim
      exact op_notN pins s σ H x y v u Q I rx ry ⟨re.non, by rw [isNon_ok rd eb]; exact q⟩
    | _ => exact (show False from hr).elim
end
/-! truth -/
section
variable {g : G} {ρ : List Addr} {H : Hp} {h : Hh}
theorem Reps.emptyL {ds : List D} {vs : List V} (r : Reps g ρ H ds vs) : (!ds.isEmpty) = !vs.isEmpty := by
  cases r <;> rfl
theorem tru_ok' {d : D} {v : V} {b : Bool} (sim : Sim g ρ h H) (r : Rep g ρ H d v) (e : tru h d = some b) : TruV g.K v H b := by
  cases r with
  | pure r =>
    cases r with
    | non => exact (Option.some.inj e).symm
    | bl b => exact (Option.some.inj e).symm
    | int i => exact (Option.some.inj e).symm
    | str x => cases e
    | ty n => cases e
    | fn f => cases e
    | emp hp => cases e
    | tup q rr => exact .inr (.inl ⟨_, q, by rw [← (rr.reps (ρ := ρ)).emptyL]; exact (Option.some.inj e).symm⟩)
    | frl q rr => exact .inl ⟨_, q.seq, by rw [← (rr.reps (ρ := ρ)).emptyL]; exact (Option.some.inj e).symm⟩
  | @ptr a p z =>
    unfold tru at e
    dsimp only at e
    cases c : h[a]? with
    | none => rw [c] at e; cases e
    | some ds =>
      rw [c] at e
      obtain ⟨vs, h1, h2⟩ := sim.get c z
      exact .inl ⟨vs, SqL.of h1, by rw [← h2.emptyL]; exact (Option.some.inj e).symm⟩
  | mtp q rr => exact .inr (.inl ⟨_, q, by rw [← rr.emptyL]; exact (Option.some.inj e).symm⟩)
end
/-! indices -/
theorem ixN_ok {n j : Nat} {k : Int} (h : ixN n k = some j) : L2.ixN n k = some j := by
  unfold Ev.ixN at h
  unfold L2.ixN
  cases k with
  | ofNat k =>
    dsimp only at h
    cases c : Nat.blt k n with
    | false => rw [c] at h; cases h
    | true =>
      rw [c] at h
      have := Nat.le_of_ble_eq_true (show Nat.ble (k + 1) n = true from c)
      have ek : k = j := Option.some.inj h
      subst ek
      rw [if_pos (by exact Int.natCast_nonneg k), if_pos (by exact Int.ofNat_lt.mpr this)]
      rfl
  | negSucc k =>
    dsimp only at h
    cases c : Nat.blt k n with
    | false => rw [c] at h; cases h
    | true =>
      rw [c] at h
      have := Nat.le_of_ble_eq_true (show Nat.ble (k + 1) n = true from c)
      have ek : n - (k + 1) = j := Option.some.inj h
      subst ek
      rw [if_neg (by omega), if_pos (by omega)]
      congr 1
      omega
theorem clip_ok (n d : Nat) (o : Option Int) : clip n d o = HT.sIx n d o := by
  cases o with
  | none => rfl
  | some k =>
    cases k with
    | ofNat k =>
      show min k n = _
      rw [show (Int.ofNat k) = ((k : Nat) : Int) from rfl, HT.sIx_nat]
    | negSucc k =>
      show n - (k + 1) = _
      have := HT.clip_eq (Int.negSucc k) n d
      rw [if_pos (by omega)] at this
      omega
section
variable {g : G}
theorem RepPs.get {H : Hp} : ∀ {ds : List D} {vs : List V} {i : Nat} {d : D}, RepPs g H ds vs → ds[i]? = some d → ∃ v, vs[i]? = some v ∧ RepP g H d v
  | _, _, _, _, .nil, e => by simp at e
  | _, _, 0, _, .cons r _, e => by simp at e; subst e; exact ⟨_, rfl, r⟩
  | _, _, i + 1, d, .cons _ s, e => by
    obtain ⟨v, h1, h2⟩ := RepPs.get (i := i) (d := d) s (by simpa using e)
    exact ⟨v, by simpa using h1, h2⟩
def rIdx (g : G) : R2 := fun x y H Q => ∃ (ρ : List Addr) (h : Hh) (d e : D), Sim g ρ h H ∧ Rep g ρ H d x ∧ Rep g ρ H e y ∧ Run g ρ H (ke Q) (index d e h)
theorem index_inv {ρ : List Addr} {H : Hp} {h : Hh} {d e : D} {x y : V} {Q : VK} (sim : Sim g ρ h H) (rd : Rep g ρ H d x) (re : Rep g ρ H e y) (hr : Run g ρ H (ke Q) (index d e h)) :
    ∃ (a : Addr) (vs : List V) (k : Int) (v : V), x = .ref a ∧ y = .int k ∧ (SqL g.K H a vs ∨ SqT g.K H a vs) ∧ atI vs k = some v ∧ Q v H := by
  cases e with
  | int k =>
    unfold index at hr
    dsimp only at hr
    cases c1 : itemsOf h d with
    | none => rw [c1] at hr; exact (show False from hr).elim
    | some ds =>
      rw [c1] at hr
      dsimp only at hr
      cases c2 : ixN ds.length k with
      | none => rw [c2] at hr; exact (show False from hr).elim
      | some j =>
        rw [c2] at hr
        dsimp only at hr
        cases c3 : ds[j]? with
        | none => rw [c3] at hr; exact (show False from hr).elim
        | some z =>
          rw [c3] at hr
          obtain ⟨a, vs, rfl, q, rr⟩ := items_seq sim rd c1
          obtain ⟨w, hw, rw'⟩ := rr.get c3
          refine ⟨a, vs, k, w, rfl, re.int, q, ?_, hr.mk sim rw'⟩
          unfold atI
          rw [← rr.length, ixN_ok c2]
          exact hw
  | _ => exact (show False from hr).elim
theorem ix_idx {X : Cx} (hK : X.K = g.K) : IxR X (rIdx g) := by
  intro value slice pins s σ H x y v u Q I rx ry hr hs
  obtain ⟨ρ, h, d, e, sim, rd, re, hr⟩ := hr
  obtain ⟨a, vs, k, z, rfl, rfl, q, at_, hQ⟩ := index_inv sim rd re hr
  rw [← hK] at q
  rcases q with q | q
  · exact ix_list value slice pins s σ H _ _ v u Q I rx ry ⟨a, vs, k, z, rfl, rfl, q, at_, hQ⟩ hs
  · exact ix_tup value slice pins s σ H _ _ v u Q I rx ry ⟨a, vs, k, z, rfl, rfl, q, at_, hQ⟩ hs
theorem cut_length (ds : List D) (lo hi : Option Int) {vs : List V} (e : ds.length = vs.length) : cut ds lo hi = (ds.drop (HT.sIx vs.length 0 lo)).take (HT.sIx vs.length vs.length hi - HT.sIx vs.length 0 lo) := by
  unfold cut
  rw [clip_ok, clip_ok, e]
def rSlice (g : G) (l u : D) : V → Option Int → Option Int → Hp → VK → Prop := fun x lo hi H Q => ∃ (ρ : List Addr) (h : Hh) (d : D), Sim g ρ h H ∧ Rep g ρ H d x ∧ part l = some lo ∧ part u = some hi ∧ Run g ρ H (ke Q) (slice d l u h)
theorem sl_sl {X : Cx} (hK : X.K = g.K) (l u : D) : SlR X (rSlice g l u) := by
  intro pins s σ H x v vl vu lo hi sl Q I rx hs pl pu hr
  obtain ⟨ρ, h, d, sim, rd, el, eu, hr⟩ := hr
  unfold slice at hr
  rw [el, eu] at hr
  dsimp only at hr
  cases d with
  | tup ds =>
    obtain ⟨a, vs, rfl, q, rr⟩ := rd.tup
    have e := cut_length ds lo hi rr.length
    have r2 : RepPs g H (cut ds lo hi) (cutV vs lo hi) := by
      rw [e]
      exact (rr.drop _).take _
    have q0 := q
    rw [← hK] at q
    refine sl_tupA pins s σ H _ v vl vu lo hi sl Q I rx hs pl pu ⟨a, vs, rfl, q, fun ⟨z1, z2⟩ => ?_, fun _ p n => hr.newTP sim r2 n⟩
    have e2 : cutV vs lo hi = vs := by
      unfold cutV
      rw [z1, z2]
      simp
    rw [e2] at r2
    exact hr.mk sim (.pure (.tup q0 r2))
  | ptr a =>
    dsimp only at hr
    cases c : h[a]? with
    | none => rw [c] at hr; exact (show False from hr).elim
    | some ds =>
      rw [c] at hr
      obtain ⟨p, vs, rfl, _, hp, rr⟩ := sim.lst rd c
      have e := cut_length ds lo hi rr.length
      have r2 : Reps g ρ H (cut ds lo hi) (cutV vs lo hi) := by
        rw [e]
        exact (rr.drop _).take _
      exact sl_list pins s σ H _ v vl vu lo hi sl Q I rx hs pl pu ⟨p, vs, rfl, SqL.of hp, fun p' n => Run.newL hr sim r2 n⟩
  | frl ds =>
    cases rd with
    | pure rd =>
      cases rd with
      | @frl a vs _ q rr =>
        have e := cut_length ds lo hi rr.length
        have r2 : RepPs g H (cut ds lo hi) (cutV vs lo hi) := by
          rw [e]
          exact (rr.drop _).take _
        have q0 := q.seq
        rw [← hK] at q0
        exact sl_list pins s σ H _ v vl vu lo hi sl Q I rx hs pl pu ⟨a, vs, rfl, q0, fun p' n => Run.newL hr sim r2.reps n⟩
  | _ => exact (show False from hr).elim
end
end Ev
-- EvG
/-! built-ins -/
namespace Ev
open PySem PySem.Spec PyProof.Rows L2
section
variable {g : G} {ρ : List Addr} {H : Hp} {h : Hh}
theorem ints_ok : ∀ {ds : List D} {is : List Int} {vs : List V}, intsD ds = some is → Reps g ρ H ds vs → vs = is.map V.int
  | [], _, _, e, .nil => by cases e; rfl
  | .int i :: ds, is, _, e, .cons r s => by
    unfold intsD at e
    cases c : intsD ds with
    | none => rw [c] at e; cases e
    | some js =>
      rw [c] at e
      cases e
      rw [r.int, ints_ok c s]
      rfl
  | .una :: _, _, _, e, _ => by cases e
  | .non :: _, _, _, e, _ => by cases e
  | .bl _ :: _, _, _, e, _ => by cases e
  | .str _ :: _, _, _, e, _ => by cases e
  | .ty _ :: _, _, _, e, _ => by cases e
  | .tup _ :: _, _, _, e, _ => by cases e
  | .frl _ :: _, _, _, e, _ => by cases e
  | .fn _ :: _, _, _, e, _ => by cases e
  | .ptr _ :: _, _, _, e, _ => by cases e
  | .mtp _ :: _, _, _, e, _ => by cases e
theorem bls_ok : ∀ {ds : List D} {is : List Bool} {vs : List V}, bls ds = some is → Reps g ρ H ds vs → vs = is.map V.bl
  | [], _, _, e, .nil => by cases e; rfl
  | .bl i :: ds, is, _, e, .cons r s => by
    unfold bls at e
    cases c : bls ds with
    | none => rw [c] at e; cases e
    | some js =>
      rw [c] at e
      cases e
      rw [r.bl, bls_ok c s]
      rfl
  | .una :: _, _, _, e, _ => by cases e
  | .non :: _, _, _, e, _ => by cases e
  | .int _ :: _, _, _, e, _ => by cases e
  | .str _ :: _, _, _, e, _ => by cases e
  | .ty _ :: _, _, _, e, _ => by cases e
  | .tup _ :: _, _, _, e, _ => by cases e
  | .frl _ :: _, _, _, e, _ => by cases e
  | .fn _ :: _, _, _, e, _ => by cases e
  | .ptr _ :: _, _, _, e, _ => by cases e
  | .mtp _ :: _, _, _, e, _ => by cases e
theorem Reps.one {d : D} {vs : List V} (r : Reps g ρ H [d] vs) : ∃ v, vs = [v] ∧ Rep g ρ H d v := by
  cases r with
  | cons r s => cases s; exact ⟨_, rfl, r⟩
theorem Reps.two {d e : D} {vs : List V} (r : Reps g ρ H [d, e] vs) : ∃ v w, vs = [v, w] ∧ Rep g ρ H d v ∧ Rep g ρ H e w := by
  cases r with
  | cons r s => cases s with
    | cons r2 s => cases s; exact ⟨_, _, rfl, r, r2⟩
def tyIs (T : String) : D → Bool
  | .int _ => T == "int"
  | .bl _ => T == "int" || T == "bool"
  | .tup _ => T == "tuple"
  | .mtp _ => T == "tuple"
  | _ => false
/-- which type a known value has -/
theorem isi_val {X : Cx} {pins : List (Addr × Obj)} {σ : L2.St} {s : Shared} {A : Around} {E : Value → Shared → Prop} {Q : Value → Shared → Prop} {d : D} {v : V} {u : Value} {T : String} (hK : X.K = g.K) (I : Inv X pins σ H s) (sim : Sim g ρ h H) (r : Rep g ρ H d v) (ru : RelV v u) (kn : known d = true)
    (hT : T = "int" ∨ T = "bool" ∨ T = "tuple") {b : Bool} (hb : b = tyIs T d) (q : ∀ tk, Q (.bool b) { s with toks := tk }) :
    wpAny (model X.prog X.w) A (call (.builtin "isinstance") [u, .type T]) Q E s := by
  have go : ∀ {t : Value}, TyOf X.K H v t → PySem.W.kitOne X.K t (.type T) = some b → wpAny (model X.prog X.w) A (call (.builtin "isinstance") [u, .type T]) Q E s := fun ty e => isinst_ok I ru ty e q
  have tup : ∀ {a : Addr} {vs : List V}, v = .ref a → SqT g.K H a vs → PySem.W.kitOne X.K (.type "tuple") (.type T) = some b → wpAny (model X.prog X.w) A (call (.builtin "isinstance") [u, .type T]) Q E s := fun {a vs} ev st e => by
    subst ev
    cases (show u = Value.ref a from ru)
    rw [← hK] at st
    obtain ⟨its, _, ⟨o, h1, h2, _⟩, _⟩ := I.tuple st
    exact PySem.W.kia_one PySem.W.kitx_tuple I.kIn ⟨o, h1, h2⟩ e (fun z => nomatch z) q
  cases r with
  | pure r =>
    cases r with
    | non => subst hb; rcases hT with rfl | rfl | rfl <;> exact go .non (kit_ty (by first | (show kitB _ _ = some true; decide +kernel) | (show kitB _ _ = some false; decide +kernel)))
    | bl _ => subst hb; rcases hT with rfl | rfl | rfl <;> exact go (.bl _) (kit_ty (by first | (show kitB _ _ = some true; decide +kernel) | (show kitB _ _ = some false; decide +kernel)))
    | int _ => subst hb; rcases hT with rfl | rfl | rfl <;> exact go (.int _) (kit_ty (by first | (show kitB _ _ = some true; decide +kernel) | (show kitB _ _ = some false; decide +kernel)))
    | str _ => subst hb; rcases hT with rfl | rfl | rfl <;> exact go (.str _) (kit_ty (by first | (show kitB _ _ = some true; decide +kernel) | (show kitB _ _ = some false; decide +kernel)))
    | tup st _ => subst hb; rcases hT with rfl | rfl | rfl <;> exact tup rfl st (kit_ty (by first | (show kitB _ _ = some true; decide +kernel) | (show kitB _ _ = some false; decide +kernel)))
    | emp hp => subst hb; rcases hT with rfl | rfl | rfl <;> exact go (.dK hp) (kit_ty (by first | (show kitB _ _ = some true; decide +kernel) | (show kitB _ _ = some false; decide +kernel)))
    | _ => cases kn
  | @ptr n p z =>
    have hp : ∃ vs, H p = some (.lst vs) := by
      have hl : n < h.length := by rw [← sim.len]; exact (List.getElem?_eq_some_iff.mp z).1
      obtain ⟨vs, h1, _⟩ := sim.get (show h[n]? = some h[n] by simp [hl]) z
      exact ⟨vs, h1⟩
    obtain ⟨vs, hp⟩ := hp
    subst hb; rcases hT with rfl | rfl | rfl <;> exact go (.lst hp) (kit_ty (by first | (show kitB _ _ = some true; decide +kernel) | (show kitB _ _ = some false; decide +kernel)))
  | mtp st _ => subst hb; rcases hT with rfl | rfl | rfl <;> exact tup rfl st (kit_ty (by first | (show kitB _ _ = some true; decide +kernel) | (show kitB _ _ = some false; decide +kernel)))
end
section
variable {g : G}
def rBi (g : G) (b : Bi) : List V → Hp → VK → Prop := fun xs H Q => ∃ (ρ : List Addr) (h : Hh) (ds : List D), Sim g ρ h H ∧ Reps g ρ H ds xs ∧ Run g ρ H (ke Q) (builtin b ds h)
theorem cr_len {X : Cx} (hK : X.K = g.K) : CallR X (.builtin "len") (rBi g .len) := by
  intro pins s σ H xs us Q I r hr
  obtain ⟨ρ, h, ds, sim, rr, hr⟩ := hr
  unfold builtin at hr
  match ds, rr, hr with
  | [d], rr, hr =>
    dsimp only at hr
    cases c : itemsOf h d with
    | none => rw [c] at hr; exact (show False from hr).elim
    | some es =>
      rw [c] at hr
      obtain ⟨v, rfl, rd⟩ := rr.one
      obtain ⟨a, vs, rfl, q, r2⟩ := items_seq sim rd c
      rw [← hK] at q
      refine call_len pins s σ H _ us Q I r ⟨_, vs.length, rfl, ?_, ?_⟩
      · rcases q with q | q
        · exact .inl ⟨vs, q, rfl⟩
        · exact .inr ⟨vs, q, rfl⟩
      · rw [← r2.length]
        exact hr.mk sim (.pure (.int _))
  | [], _, hr => exact (show False from hr).elim
  | _ :: _ :: _, _, hr => exact (show False from hr).elim
theorem cr_int {X : Cx} : CallR X (.type "int") (rBi g .int) := by
  intro pins s σ H xs us Q I r hr
  obtain ⟨ρ, h, ds, sim, rr, hr⟩ := hr
  unfold builtin at hr
  dsimp only at hr
  split at hr
  · obtain ⟨v, rfl, rd⟩ := rr.one
    obtain rfl := rd.int
    exact call_int1 pins s σ H _ us Q I r (.inl ⟨_, rfl, Run.mk hr sim (.pure (.int _))⟩)
  · obtain ⟨v, rfl, rd⟩ := rr.one
    obtain rfl := rd.bl
    exact call_int1 pins s σ H _ us Q I r (.inr ⟨_, rfl, Run.mk hr sim (.pure (.int _))⟩)
  · exact (show False from hr).elim
theorem inv_i1 {ρ : List Addr} {H : Hp} {h : Hh} {ds : List D} {xs : List V} {f : Int → D} {k : Kt}
    (hr : Run g ρ H k (match ds with | [.int i] => .ok (f i) h | _ => .no)) (rr : Reps g ρ H ds xs) : ∃ i, ds = [.int i] ∧ xs = [.int i] ∧ Run g ρ H k (.ok (f i) h) := by
  split at hr
  · obtain ⟨v, rfl, rd⟩ := rr.one
    obtain rfl := rd.int
    exact ⟨_, rfl, rfl, hr⟩
  · exact (show False from hr).elim
theorem inv_i2 {ρ : List Addr} {H : Hp} {h : Hh} {ds : List D} {xs : List V} {f : Int → Int → D} {k : Kt}
    (hr : Run g ρ H k (match ds with | [.int i, .int j] => .ok (f i j) h | _ => .no)) (rr : Reps g ρ H ds xs) : ∃ i j, ds = [.int i, .int j] ∧ xs = [.int i, .int j] ∧ Run g ρ H k (.ok (f i j) h) := by
  split at hr
  · obtain ⟨v, w, rfl, rd, re⟩ := rr.two
    obtain rfl := rd.int
    obtain rfl := re.int
    exact ⟨_, _, rfl, rfl, hr⟩
  · exact (show False from hr).elim
theorem cr_abs {X : Cx} : CallR X (.builtin "abs") (rBi g .abs) := by
  intro pins s σ H xs us Q I r hr
  obtain ⟨ρ, h, ds, sim, rr, hr⟩ := hr
  obtain ⟨i, rfl, rfl, hr⟩ := inv_i1 (f := fun i => .int (if i < 0 then -i else i)) hr rr
  exact call_abs pins s σ H _ us Q I r ⟨i, rfl, hr.mk sim (.pure (.int _))⟩
theorem cr_max2 {X : Cx} (hc : X.calm = true) : CallR X (.builtin "max") (rBi g .max2) := by
  intro pins s σ H xs us Q I r hr
  obtain ⟨ρ, h, ds, sim, rr, hr⟩ := hr
  obtain ⟨i, j, rfl, rfl, hr⟩ := inv_i2 (f := fun i j => .int (if j > i then j else i)) hr rr
  exact call_max2 hc pins s σ H _ us Q I r ⟨i, j, rfl, hr.mk sim (.pure (.int _))⟩
theorem cr_min2 {X : Cx} (hc : X.calm = true) : CallR X (.builtin "min") (rBi g .min2) := by
  intro pins s σ H xs us Q I r hr
  obtain ⟨ρ, h, ds, sim, rr, hr⟩ := hr
  obtain ⟨i, j, rfl, rfl, hr⟩ := inv_i2 (f := fun i j => .int (if j < i then j else i)) hr rr
  exact call_min2 hc pins s σ H _ us Q I r ⟨i, j, rfl, hr.mk sim (.pure (.int _))⟩
theorem inv_p {ρ : List Addr} {H : Hp} {h : Hh} {ds : List D} {xs : List V} {f : List D → R} {k : Kt} (sim : Sim g ρ h H)
    (hr : Run g ρ H k (match ds with | [.ptr a] => (match h[a]? with | some es => f es | none => .no) | _ => .no)) (rr : Reps g ρ H ds xs) :
    ∃ (p : Addr) (es : List D) (vs : List V), xs = [.ref p] ∧ H p = some (.lst vs) ∧ Reps g ρ H es vs ∧ Run g ρ H k (f es) := by
  split at hr
  · rename_i a
    cases c : h[a]? with
    | none => rw [c] at hr; exact (show False from hr).elim
    | some es =>
      rw [c] at hr
      obtain ⟨v, rfl, rd⟩ := rr.one
      obtain ⟨p, vs, rfl, _, hp, r2⟩ := sim.lst rd c
      exact ⟨p, es, vs, rfl, hp, r2, hr⟩
  · exact (show False from hr).elim
theorem cr_sumE {X : Cx} (hc : X.calm = true) : CallR X (.builtin "sum") (rBi g .sum) := by
  intro pins s σ H xs us Q I r hr
  obtain ⟨ρ, h, ds, sim, rr, hr⟩ := hr
  obtain ⟨p, es, vs, rfl, hp, r2, hr⟩ := inv_p (f := fun es => match intsD es with | some is => .ok (.int is.sum) h | none => .no) sim hr rr
  cases c : intsD es with
  | none => rw [c] at hr; exact (show False from hr).elim
  | some is =>
    rw [c] at hr
    obtain rfl := ints_ok c r2
    exact cr_sum hc pins s σ H _ us Q I r ⟨p, is, rfl, SqL.of hp, Run.mk hr sim (.pure (.int _))⟩
theorem cr_anyE {X : Cx} (hc : X.calm = true) : CallR X (.builtin "any") (rBi g .any) := by
  intro pins s σ H xs us Q I r hr
  obtain ⟨ρ, h, ds, sim, rr, hr⟩ := hr
  obtain ⟨p, es, vs, rfl, hp, r2, hr⟩ := inv_p (f := fun es => match bls es with | some bs => .ok (.bl (bs.any id)) h | none => .no) sim hr rr
  cases c : bls es with
  | none => rw [c] at hr; exact (show False from hr).elim
  | some is =>
    rw [c] at hr
    obtain rfl := bls_ok c r2
    exact cr_any hc pins s σ H _ us Q I r ⟨p, is, rfl, SqL.of hp, Run.mk hr sim (.pure (.bl _))⟩
theorem cr_allE {X : Cx} (hc : X.calm = true) : CallR X (.builtin "all") (rBi g .all) := by
  intro pins s σ H xs us Q I r hr
  obtain ⟨ρ, h, ds, sim, rr, hr⟩ := hr
  obtain ⟨p, es, vs, rfl, hp, r2, hr⟩ := inv_p (f := fun es => match bls es with | some bs => .ok (.bl (bs.all id)) h | none => .no) sim hr rr
  cases c : bls es with
  | none => rw [c] at hr; exact (show False from hr).elim
  | some is =>
    rw [c] at hr
    obtain rfl := bls_ok c r2
    exact cr_all hc pins s σ H _ us Q I r ⟨p, is, rfl, SqL.of hp, Run.mk hr sim (.pure (.bl _))⟩
theorem cr_tupleE {X : Cx} (hK : X.K = g.K) : CallR X (.type "tuple") (rBi g .tuple) := by
  intro pins s σ H xs us Q I r hr
  obtain ⟨ρ, h, ds, sim, rr, hr⟩ := hr
  unfold builtin at hr
  dsimp only at hr
  split at hr
  · rename_i a
    cases c : h[a]? with
    | none => rw [c] at hr; exact (show False from hr).elim
    | some es =>
      rw [c] at hr
      obtain ⟨v, rfl, rd⟩ := rr.one
      obtain ⟨p, vs, rfl, _, hp, r2⟩ := sim.lst rd c
      exact call_tuple_of pins s σ H _ us Q I r ⟨p, vs, rfl, .inl ⟨SqL.of hp, fun l n => hr.newT sim r2 n⟩⟩
  · obtain ⟨v, rfl, rd⟩ := rr.one
    have rd0 := rd
    obtain ⟨a, vs, rfl, q, _⟩ := rd.tup
    rw [← hK] at q
    exact call_tuple_of pins s σ H _ us Q I r ⟨a, vs, rfl, .inr ⟨q, hr.mk sim rd0⟩⟩
  · exact (show False from hr).elim
theorem cr_listE {X : Cx} (hK : X.K = g.K) : CallR X (.type "list") (rBi g .list) := by
  intro pins s σ H xs us Q I r hr
  obtain ⟨ρ, h, ds, sim, rr, hr⟩ := hr
  unfold builtin at hr
  dsimp only at hr
  split at hr
  · rename_i d
    cases c : itemsOf h d with
    | none => rw [c] at hr; exact (show False from hr).elim
    | some es =>
      rw [c] at hr
      obtain ⟨v, rfl, rd⟩ := rr.one
      obtain ⟨a, vs, rfl, q, r2⟩ := items_seq sim rd c
      rw [← hK] at q
      exact call_list_of pins s σ H _ us Q I r ⟨a, vs, rfl, q, fun l n => Run.newL hr sim r2 n⟩
  · exact (show False from hr).elim
/-- isinstance(v, T) -/
def rIsi (g : G) (b : Bi) (T : String) : List V → Hp → VK → Prop := fun xs H Q => ∃ (x : V) (ρ : List Addr) (h : Hh) (d : D), xs = [x, .ty T] ∧ Sim g ρ h H ∧ Rep g ρ H d x ∧ Run g ρ H (ke Q) (builtin b [d] h)
theorem cr_isi {X : Cx} (hK : X.K = g.K) {b : Bi} {T : String} (hb : (b = .isIntB ∧ T = "int") ∨ (b = .isBoolB ∧ T = "bool") ∨ (b = .isTupB ∧ T = "tuple")) : CallR X (.builtin "isinstance") (rIsi g b T) := by
  intro pins s σ H xs us Q I r hr
  obtain ⟨x, ρ, h, d, rfl, sim, rd, hr⟩ := hr
  obtain ⟨u1, u2, rfl, r1, r2⟩ := vals2 r
  cases (show u2 = Value.type T from r2)
  rcases hb with ⟨rfl, rfl⟩ | ⟨rfl, rfl⟩ | ⟨rfl, rfl⟩
  · unfold builtin at hr
    dsimp only at hr
    cases kn : known d with
    | false => rw [kn] at hr; exact (show False from hr).elim
    | true =>
      rw [kn] at hr
      exact isi_val (b := tyI d) hK I sim rd r1 kn (.inl rfl) (by cases d <;> rfl) fun tk => ⟨.bl _, H, I.tok tk, rfl, Run.mk hr sim (.pure (.bl _))⟩
  · unfold builtin at hr
    dsimp only at hr
    cases kn : known d with
    | false => rw [kn] at hr; exact (show False from hr).elim
    | true =>
      rw [kn] at hr
      exact isi_val (b := tyB d) hK I sim rd r1 kn (.inr (.inl rfl)) (by cases d <;> rfl) fun tk => ⟨.bl _, H, I.tok tk, rfl, Run.mk hr sim (.pure (.bl _))⟩
  · unfold builtin at hr
    dsimp only at hr
    cases kn : known d with
    | false => rw [kn] at hr; exact (show False from hr).elim
    | true =>
      rw [kn] at hr
      exact isi_val (b := tyT d) hK I sim rd r1 kn (.inr (.inr rfl)) (by cases d <;> rfl) fun tk => ⟨.bl _, H, I.tok tk, rfl, Run.mk hr sim (.pure (.bl _))⟩
end
end Ev
-- EvR2
/-! sources: enumerate and zip over lists and tuples in any mix -/
namespace Ev
open PySem PySem.Spec PyProof.Rows L2
def SqK (b : Bool) (K : PySem.W.Frag) (H : Hp) (a : Addr) (xs : List V) : Prop := match b with
  | true => SqL K H a xs
  | false => SqT K H a xs
def IterK (b : Bool) (h : Heap) (it a : Addr) (i : Nat) : Prop := match b with
  | true => h.IsListIter it a i
  | false => h.IsTupleIter it a i
def ObjK (b : Bool) (h : Heap) (a : Addr) (its : Array Value) : Prop := match b with
  | true => h.IsList a its
  | false => h.IsTuple a its
section
variable {X : Cx} {pins : List (Addr × Obj)} {σ : L2.St} {H : Hp} {s : Shared}
theorem sqK_at {b : Bool} {a : Addr} {xs : List V} (I : Inv X pins σ H s) (q : SqK b X.K H a xs) : ∃ its : List Value, Vals xs its ∧ ObjK b s.heap a its.toArray := by
  cases b with
  | true =>
    obtain ⟨its, r, p, _⟩ := I.list q
    exact ⟨its, r, p.isList⟩
  | false =>
    obtain ⟨its, r, p, _⟩ := I.tuple q
    exact ⟨its, r, p⟩
theorem sqK_inj {b : Bool} {a : Addr} {xs ys : List V} (I : Inv X pins σ H s) (q : SqK b X.K H a xs) (q' : SqK b X.K H a ys) : xs = ys := by
  cases b with
  | true => exact I.list_inj q q'
  | false => exact I.tuple_inj q q'
end
theorem objK_lt {b : Bool} {h : Heap} {a : Addr} {its : Array Value} (q : ObjK b h a its) : a < h.objs.size := by
  cases b with
  | true => obtain ⟨o, e, _⟩ := q; exact Heap.lt_size e
  | false => obtain ⟨o, e, _⟩ := q; exact Heap.lt_size e
theorem iterK_obj {b : Bool} {h : Heap} {it a : Addr} {i : Nat} (q : IterK b h it a i) : ∃ o, h.get? it = some o ∧ ∀ v, o.data ≠ .cell v := by
  cases b with
  | true => obtain ⟨o, e, _, d⟩ := q; exact ⟨o, e, fun v z => by rw [d] at z; cases z⟩
  | false => obtain ⟨o, e, _, d⟩ := q; exact ⟨o, e, fun v z => by rw [d] at z; cases z⟩
theorem iterK_at {b : Bool} {h h' : Heap} {it a : Addr} {i : Nat} (q : IterK b h it a i) (k : ∀ o, h.get? it = some o → h'.get? it = some o) : IterK b h' it a i := by
  cases b with
  | true => exact (show h.IsListIter it a i from q).at k
  | false => exact (show h.IsTupleIter it a i from q).at k
theorem drawsK {b : Bool} {prog : Program} {w : World} {A : Around} (hh : A.handled = none) (it l : Addr) (hne : l ≠ it) (items : Array Value) :
    Draws prog w A it [it, l] items.size (fun i v => items[i]? = some v) (fun i h => IterK b h it l i ∧ ObjK b h l items) := by
  cases b with
  | true => exact Draws.list hh it l hne items
  | false => exact Draws.tuple hh it l hne items
def iterO (b : Bool) (a : Addr) : Obj := match b with
  | true => { cls := .type "list_iterator", data := .fields #[.ref a, .int 0 0] }
  | false => { cls := .type "tuple_iterator", data := .fields #[.ref a, .int 0 0] }
theorem beginsK (b : Bool) (a : Addr) (items : Array Value) : Begins (.ref a) (iterO b a) fun h => ObjK b h a items := by
  cases b with
  | true => exact begins_list a items
  | false => exact begins_tuple a items
theorem iterO_is {b : Bool} {h : Heap} {it a : Addr} (e : h.get? it = some (iterO b a)) : IterK b h it a 0 := by
  cases b with
  | true => exact ⟨_, e, rfl, rfl⟩
  | false => exact ⟨_, e, rfl, rfl⟩
def ItE (K : PySem.W.Frag) (b : Bool) (a : Addr) : It :=
  ⟨fun i H => ∃ (xs : List V) (x : V), SqK b K H a xs ∧ xs[i]? = some x,
    fun i H v H' => ∃ T x, v = .ref T ∧ H T = none ∧ H' = upd H T (.tup [.int (i : Nat), x]) ∧ ∀ xs, SqK b K H a xs → xs[i]? = some x,
    fun i H => ∃ xs : List V, SqK b K H a xs ∧ xs.length = i⟩
theorem turn_enumK {P : Program} {w : World} {K : PySem.W.Frag} {elts : List Expr} {kk : Nat} {tpos : Pos} (b : Bool) (a e it : Addr) (hei : e ≠ it) (hai : a ≠ it) (hae : a ≠ e) :
    Turn P w K (.Tuple elts kk tpos) (ItE K b a) [e, it] e (fun i h => (∃ old, IsEnum h e it ((i : Nat) : Int) old) ∧ IterK b h it a i) where
  mem := by simp
  obj := fun i h st c hb => by
    obtain ⟨⟨old, he⟩, hi⟩ := st
    have e' : c = e ∨ c = it := by simpa using hb
    rcases e' with z | z
    · rw [z]; exact ⟨_, he, fun v q => nomatch q⟩
    · rw [z]; exact iterK_obj hi
  keep := fun i h h' st k => let ⟨⟨old, he⟩, hi⟩ := st; ⟨⟨old, k e (by simp) _ he⟩, iterK_at hi fun o q => k it (by simp) o q⟩
  item := by
    intro X hP hw hK hc i pins s σ H E I hf st hg
    subst hP hw hK
    obtain ⟨⟨old, he⟩, hit⟩ := st
    obtain ⟨xs, x, hq, hx⟩ := hg
    obtain ⟨its, rv, p⟩ := sqK_at I hq
    obtain ⟨u, hu, ru⟩ := rv.get hx
    have hel : e < s.heap.objs.size := Heap.lt_size he
    have hil : it < s.heap.objs.size := by obtain ⟨_, q, _⟩ := iterK_obj hit; exact Heap.lt_size q
    have hlt : i < its.toArray.size := by
      have := (List.getElem?_eq_some_iff.mp hu).1
      simpa using this
    refine wpAny_pyNext_enum_itemD (drawsK (A := X.A.in1) (I.ok.hd hc) it a hai its.toArray) he ⟨hit, p⟩ hlt hei (by simp; exact ⟨hei, Ne.symm hae⟩) fun u' h' tk pu ho ⟨hit', _⟩ hT hsz hk => ?_
    have eu : u' = u := by
      have : its[i]? = some u' := by simpa using pu
      rw [hu] at this
      exact (Option.some.inj this).symm
    subst eu
    refine ⟨_, rfl, wpAny_letOwnedTupleGo_enum (s := { s with heap := h', toks := tk + 1 }) ho fun h'' he' sb => ?_⟩
    have hT2 : h''.get? s.heap.objs.size = some { cls := .type "tuple", data := .seq #[.int i tk, u'] } := (sb.2 _ (Nat.ne_of_gt hel)).trans hT
    have new : ObjOk X.prog X.w (upd H s.heap.objs.size (.tup [.int (i : Nat), x])) h'' s.heap.objs.size (.tup [.int (i : Nat), x]) :=
      ⟨by show 2 ≤ sizeLine; decide, [.int i tk, u'], .cons ⟨_, rfl⟩ (.cons ru .nil), ⟨_, hT2, rfl, _, rfl⟩⟩
    have I1 : Inv X pins σ (upd H s.heap.objs.size (.tup [.int (i : Nat), x])) { s with heap := h'', toks := tk + 1 } :=
      I.turnedNew (ch := [e, it]) (fun c ob hb q => (sb.2 c (fun z => hb (by simp [z]))).trans (hk c ob (fun z => hb (by simp [z])) (fun z => hb (by simp [z])) q)) hf (Nat.le_refl _) new
    refine ⟨.ref s.heap.objs.size, _, I1, rfl, ⟨_, x, rfl, I.hok.fresh (Nat.le_refl _), rfl, fun ys hy => by rw [sqK_inj I hy hq]; exact hx⟩, ⟨⟨u', ?_⟩, iterK_at hit' fun o q => (sb.2 it (Ne.symm hei)).trans q⟩, fun c hb => ?_⟩
    · have e1 : ((i + 1 : Nat) : Int) = (i : Int) + 1 := by omega
      rw [e1]; exact he'
    · have hb' : c < s.heap.objs.size := by
        have e' : c = e ∨ c = it := by simpa using hb
        rcases e' with z | z
        · rw [z]; exact hel
        · rw [z]; exact hil
      rw [upd_ne (Nat.ne_of_lt hb')]
      exact (hf c hb).1
  done := by
    intro X hP hw hK hc i pins s σ H E I hf st hg
    subst hP hw hK
    obtain ⟨⟨old, he⟩, hit⟩ := st
    obtain ⟨xs, hq, hx⟩ := hg
    obtain ⟨its, rv, p⟩ := sqK_at I hq
    obtain ⟨f0, f1, f2, f3, f4, f5⟩ := hf it (by simp)
    have hl : its.toArray.size = i := by
      have := rv.length
      simp
      omega
    exact wpAny_pyNext_enum_endD (i := (i : Int)) (drawsK (A := X.A.in1) (I.ok.hd hc) it a hai its.toArray) he ⟨by rw [hl]; exact hit, p⟩ fun h' eb => ⟨rfl, I.turned (t' := s.toks) (fun c o hb q => eb c o hb q) f0 f1 f3 f4 f5⟩
  self := fun A i s Q E st h => let ⟨⟨_, he⟩, _⟩ := st; wpAny_pyIter_enum he h
theorem meets_enumerate_newB1 {v : Value} {o : Obj} {H : Heap → Prop} (B : Begins v o H) :
    Meets (Builtin.«enumerate.__new__» ⟨[.type "enumerate", v], []⟩) (fun _ R s => H s.heap ∧
      R (.ok (.ret (.ref (s.heap.push o).objs.size))) { s with heap := (s.heap.push o).push { cls := .type "enumerate", data := .fields #[.none, .bool false, .ref s.heap.objs.size, rawInt 0, .none, .none] } }) :=
  .of_wp fun prog w A R s h => by
    obtain ⟨hp, g, d, tk, os⟩ := s; obtain ⟨h1, h⟩ := h
    have hsub := sub_enumerate
    have q1 : ∀ {A' : Around} {E : Value → Shared → Prop} {Q : Value → Shared → Prop}, Q (.ref hp.objs.size) ⟨hp.push o, g, d, tk, os⟩ → wpAny (model prog w) A' (pyIter v) Q E ⟨hp, g, d, tk, os⟩ :=
      fun q => B.iter prog w _ _ ⟨hp, g, d, tk, os⟩ _ h1 q
    wp_walk using q1
    refine wpAny_stack_any fun st => wpAny_pure ?_
    split
    · rename_i c _ _ _ _ _
      cases (c == Value.type "enumerate")
      · wp_walk using q1
        exact ⟨_, rfl, h⟩
      · wp_walk using q1
        exact ⟨_, rfl, h⟩
    · wp_walk using q1
      exact ⟨_, rfl, h⟩
theorem enum_begins1 {prog : Program} {w : World} {A : Around} {E : Value → Shared → Prop} {s : Shared} {v : Value} {o : Obj} {H : Heap → Prop} {Q : Value → Shared → Prop} (B : Begins v o H) (h1 : H s.heap)
    (h : ∀ h', IsEnum h' (s.heap.objs.size + 1) s.heap.objs.size 0 .none → h'.get? s.heap.objs.size = some o → h'.objs.size = s.heap.objs.size + 2 →
      (∀ b o, s.heap.get? b = some o → h'.get? b = some o) → Q (.ref (s.heap.objs.size + 1)) { s with heap := h' }) :
    wpAny (model prog w) A (call (.type "enumerate") [v]) Q E s := by
  refine callType_new F.called_enumerate (by decide) (F.typeCall_enumerate_1 _) (F.newCall_enumerate_1 _) (fun obj => F.args_object_init_2 obj _) F.entry_enumerate_new
    (meets_enumerate_newB1 B) ⟨h1, ?_⟩
  have hz : (s.heap.push o).objs.size = s.heap.objs.size + 1 := Heap.size_push ..
  show _ ∧ _
  rw [hz]
  have he : IsEnum ((s.heap.push o).push { cls := .type "enumerate", data := .fields #[.none, .bool false, .ref s.heap.objs.size, rawInt 0, .none, .none] }) (s.heap.objs.size + 1) s.heap.objs.size 0 .none := by
    have := Heap.get?_push_size (s.heap.push o) (o := { cls := .type "enumerate", data := .fields #[.none, .bool false, .ref s.heap.objs.size, rawInt 0, .none, .none] }) rfl
    rw [hz] at this; exact this
  refine ⟨⟨_, he, rfl⟩, h _ he (Heap.get?_push_of_some _ (Heap.get?_push_size _ B.free)) (by rw [Heap.size_push, hz]) fun b o x => Heap.get?_push_of_some _ (Heap.get?_push_of_some _ x)⟩
theorem notStar {e : Expr} {es : List Expr} {env : Env} (h : isStar e = false) : starEach (e :: es) env = (false, eval e env) :: starEach es env := by
  cases e <;> first | rfl | cases h
section
variable {X : Cx}
def iEnK (K : PySem.W.Frag) (te : TE) : TI := fun σ H R => te σ H fun x H1 => ∃ (b : Bool) (a : Addr) (xs : List V), x = .ref a ∧ SqK b K H1 a xs ∧ R (ItE K b a) H1
theorem pi_enK {e : Expr} {te : TE} {p pos tpos : Pos} {elts : List Expr} {kk : Nat} (hg : Gl X "enumerate") (hm : X.mg "enumerate" = none) (he : PE X e te) (hs : isStar e = false) :
    PI X (.Tuple elts kk tpos) (.Call (.Name "enumerate" p) [e] [] pos) (iEnK X.K te) := by
  refine ⟨fun pins s σ H R I h => ?_⟩
  have ha : PA X [e] (tCons te tNil) := pa_cons he pa_nil (notStar hs)
  refine Call_ (ld_blt I hg hm boot_enumerate (PyProof.Rows.callWith_type1 (thn (ha.run pos pins s σ H (fun vs H1 => ∃ (b : Bool) (a : Addr) (xs : List V), vs = [.ref a] ∧ SqK b X.K H1 a xs ∧ R (ItE X.K b a) H1) I ?_) fun us s1 ⟨vs, H1, I1, r1, q1⟩ => ?_) (notStar hs) rfl))
  · show te σ H fun x H1 => ∃ (b : Bool) (a : Addr) (xs : List V), [x] = [.ref a] ∧ _
    have h2 : (fun (x : V) (H1 : Hp) => ∃ (b : Bool) (a : Addr) (xs : List V), [x] = [V.ref a] ∧ SqK b X.K H1 a xs ∧ R (ItE X.K b a) H1) = (fun x H1 => ∃ (b : Bool) (a : Addr) (xs : List V), x = .ref a ∧ SqK b X.K H1 a xs ∧ R (ItE X.K b a) H1) := by
      funext x H1
      simp only [List.cons.injEq, and_true]
    rw [h2]
    exact h
  · obtain ⟨b, a, xs, ex, hq, q⟩ := q1
    subst ex
    cases r1 with
    | cons r rr =>
      cases rr
      cases r
      obtain ⟨its, rv, p'⟩ := sqK_at I1 hq
      refine enum_begins1 (beginsK b a its.toArray) p' fun h' he hit hsz hk => wpAny_pyIter_enum he ?_
      have I2 : Inv X pins σ H1 { s1 with heap := h' } := I1.kept (t' := s1.toks) hk
      have la := objK_lt p'
      refine ⟨s1.heap.objs.size + 1, [s1.heap.objs.size + 1, s1.heap.objs.size], _, _, H1, rfl, I2, turn_enumK b a (s1.heap.objs.size + 1) s1.heap.objs.size (Nat.succ_ne_self _) (Nat.ne_of_lt la) (Nat.ne_of_lt (Nat.lt_succ_of_lt la)), ⟨⟨.none, he⟩, iterO_is hit⟩, fun c hb => ?_, q⟩
      have e' : c = s1.heap.objs.size + 1 ∨ c = s1.heap.objs.size := by simpa using hb
      have hle : s1.heap.objs.size ≤ c := by
        rcases e' with z | z
        · rw [z]; exact Nat.le_add_right _ _
        · rw [z]; exact Nat.le_refl _
      exact I1.fpOk hle (I1.hok.fresh hle)
end
/-! zip -/
def ItZ (K : PySem.W.Frag) (b c : Bool) (a a2 : Addr) : It :=
  ⟨fun i H => ∃ (xs ys : List V) (x y : V), SqK b K H a xs ∧ SqK c K H a2 ys ∧ xs[i]? = some x ∧ ys[i]? = some y,
    fun i H v H' => ∃ T x y, v = .ref T ∧ H T = none ∧ H' = upd H T (.tup [x, y]) ∧ (∀ xs, SqK b K H a xs → xs[i]? = some x) ∧ ∀ ys, SqK c K H a2 ys → ys[i]? = some y,
    fun i H => ∃ xs ys : List V, SqK b K H a xs ∧ SqK c K H a2 ys ∧ i ≤ xs.length ∧ i ≤ ys.length ∧ (i = xs.length ∨ i = ys.length)⟩
theorem turn_zipK {P : Program} {w : World} {K : PySem.W.Frag} {elts : List Expr} {kk : Nat} {tpos : Pos} {b c : Bool} {a a2 z TI TO i1 i2 : Addr} (D : ZipSep2 z TI TO i1 i2 [i1, a] [i2, a2]) :
    Turn P w K (.Tuple elts kk tpos) (ItZ K b c a a2) [z, TI, TO, i1, i2] z (fun i h => IsZip h z TI TO .none ∧ IsTupOf2 h TI (.ref i1) (.ref i2) ∧ (∃ x y, IsTupOf2 h TO x y) ∧ IterK b h i1 a i ∧ IterK c h i2 a2 i) where
  mem := by simp
  obj := fun i h st d hc => by
    obtain ⟨hz, hTI, ⟨x, y, hTO⟩, k1, k2⟩ := st
    have e' : d = z ∨ d = TI ∨ d = TO ∨ d = i1 ∨ d = i2 := by simpa using hc
    rcases e' with q | q | q | q | q
    · rw [q]; exact ⟨_, hz, fun v q => nomatch q⟩
    · rw [q]; exact ⟨_, hTI, fun v q => nomatch q⟩
    · rw [q]; exact ⟨_, hTO, fun v q => nomatch q⟩
    · rw [q]; exact iterK_obj k1
    · rw [q]; exact iterK_obj k2
  keep := fun i h h' st k => by
    obtain ⟨hz, hTI, ⟨x, y, hTO⟩, h1, h2⟩ := st
    exact ⟨k z (by simp) _ hz, k TI (by simp) _ hTI, ⟨x, y, k TO (by simp) _ hTO⟩, iterK_at h1 fun o q => k i1 (by simp) o q, iterK_at h2 fun o q => k i2 (by simp) o q⟩
  item := by
    intro X hP hw hK hc i pins s σ H E I hf st hg
    subst hP hw hK
    obtain ⟨hz, hTI, ⟨x0, y0, hTO⟩, h1, h2⟩ := st
    obtain ⟨xs, ys, x, y, hqx, hqy, hx, hy⟩ := hg
    obtain ⟨its, rv, p⟩ := sqK_at I hqx
    obtain ⟨its2, rv2, p2⟩ := sqK_at I hqy
    obtain ⟨u, hu, ru⟩ := rv.get hx
    obtain ⟨u2, hu2, ru2⟩ := rv2.get hy
    have hzl : z < s.heap.objs.size := Heap.lt_size hz
    have n1 : a ≠ i1 := fun e => D.sep1_2 (by
      obtain ⟨_, e1, _⟩ := iterK_obj h1
      exfalso
      subst e
      cases b with
      | true =>
        obtain ⟨o1, q1, c1, d1⟩ := (show s.heap.IsListIter a a i from h1)
        obtain ⟨o2, q2, c2, _⟩ := (show s.heap.IsList a its.toArray from p)
        rw [q1] at q2
        cases q2
        rw [c1] at c2
        exact absurd c2 (by decide)
      | false =>
        obtain ⟨o1, q1, c1, d1⟩ := (show s.heap.IsTupleIter a a i from h1)
        obtain ⟨o2, q2, c2, _⟩ := (show s.heap.IsTuple a its.toArray from p)
        rw [q1] at q2
        cases q2
        rw [c1] at c2
        exact absurd c2 (by decide))
    have n2 : a2 ≠ i2 := fun e => D.sep2_1 (by
      exfalso
      subst e
      cases c with
      | true =>
        obtain ⟨o1, q1, c1, d1⟩ := (show s.heap.IsListIter a2 a2 i from h2)
        obtain ⟨o2, q2, c2, _⟩ := (show s.heap.IsList a2 its2.toArray from p2)
        rw [q1] at q2
        cases q2
        rw [c1] at c2
        exact absurd c2 (by decide)
      | false =>
        obtain ⟨o1, q1, c1, d1⟩ := (show s.heap.IsTupleIter a2 a2 i from h2)
        obtain ⟨o2, q2, c2, _⟩ := (show s.heap.IsTuple a2 its2.toArray from p2)
        rw [q1] at q2
        cases q2
        rw [c1] at c2
        exact absurd c2 (by decide))
    have hlt1 : i < its.toArray.size := by simpa using (List.getElem?_eq_some_iff.mp hu).1
    have hlt2 : i < its2.toArray.size := by simpa using (List.getElem?_eq_some_iff.mp hu2).1
    refine wpAny_pyNext_zipD2_item D (drawsK (A := X.A.in1) (I.ok.hd hc) i1 a n1 its.toArray) (drawsK (A := X.A.in1) (I.ok.hd hc) i2 a2 n2 its2.toArray) hz hTI hTO ⟨h1, p⟩ ⟨h2, p2⟩ hlt1 hlt2 fun v1 v2 h' tk pv1 pv2 z' TO' s1' s2' hT hsz hk => ?_
    have e1 : v1 = u := by
      have : its[i]? = some v1 := by simpa using pv1
      rw [hu] at this
      exact (Option.some.inj this).symm
    have e2 : v2 = u2 := by
      have : its2[i]? = some v2 := by simpa using pv2
      rw [hu2] at this
      exact (Option.some.inj this).symm
    subst e1
    subst e2
    refine ⟨_, rfl, wpAny_letOwnedTupleGo_zip (s := { s with heap := h', toks := tk }) z' fun h'' z'' sb => ?_⟩
    have hT2 : h''.get? s.heap.objs.size = some { cls := .type "tuple", data := .seq #[v1, v2] } := (sb.2 _ (Nat.ne_of_gt hzl)).trans hT
    have new : ObjOk X.prog X.w (upd H s.heap.objs.size (.tup [x, y])) h'' s.heap.objs.size (.tup [x, y]) :=
      ⟨by show 2 ≤ sizeLine; decide, [v1, v2], .cons ru (.cons ru2 .nil), ⟨_, hT2, rfl, _, rfl⟩⟩
    have I1 : Inv X pins σ (upd H s.heap.objs.size (.tup [x, y])) { s with heap := h'', toks := tk } :=
      I.turnedNew (ch := [z, TI, TO, i1, i2]) (fun d o hb q => (sb.2 d (fun q' => hb (by simp [q']))).trans (hk d o (fun q' => hb (by simp [q'])) (fun q' => hb (by simp [q'])) (fun q' => hb (by simp [q'])) (fun q' => hb (by simp [q'])) q)) hf (Nat.le_refl _) new
    have i1z : i1 ≠ z := fun e => D.zf1 (by rw [← e]; simp)
    have i2z : i2 ≠ z := fun e => D.zf2 (by rw [← e]; simp)
    refine ⟨.ref s.heap.objs.size, _, I1, rfl, ⟨_, x, y, rfl, I.hok.fresh (Nat.le_refl _), rfl, fun l hl => by rw [sqK_inj I hl hqx]; exact hx, fun l hl => by rw [sqK_inj I hl hqy]; exact hy⟩, ⟨z'', ?_, ⟨v1, v2, ?_⟩, ?_, ?_⟩, fun d hcm => ?_⟩
    · exact (sb.2 _ D.TIz).trans (hk _ _ D.TIz D.TITO D.TIi1 D.TIi2 hTI)
    · exact (sb.2 _ D.TOz).trans TO'
    · exact iterK_at s1'.1 fun o q => (sb.2 _ i1z).trans q
    · exact iterK_at s2'.1 fun o q => (sb.2 _ i2z).trans q
    · have hlt : d < s.heap.objs.size := by
        have e' : d = z ∨ d = TI ∨ d = TO ∨ d = i1 ∨ d = i2 := by simpa using hcm
        rcases e' with q | q | q | q | q
        · rw [q]; exact hzl
        · rw [q]; exact Heap.lt_size hTI
        · rw [q]; exact Heap.lt_size hTO
        · rw [q]; obtain ⟨_, e1, _⟩ := iterK_obj h1; exact Heap.lt_size e1
        · rw [q]; obtain ⟨_, e2, _⟩ := iterK_obj h2; exact Heap.lt_size e2
      rw [upd_ne (Nat.ne_of_lt hlt)]
      exact (hf d hcm).1
  done := by
    intro X hP hw hK hc i pins s σ H E I hf st hg
    subst hP hw hK
    obtain ⟨hz, hTI, ⟨x0, y0, hTO⟩, h1, h2⟩ := st
    obtain ⟨xs, ys, hqx, hqy, l1, l2, hend⟩ := hg
    obtain ⟨its, rv, p⟩ := sqK_at I hqx
    obtain ⟨its2, rv2, p2⟩ := sqK_at I hqy
    have n1 : a ≠ i1 := fun e => by
      subst e
      cases b with
      | true =>
        obtain ⟨o1, q1, c1, d1⟩ := (show s.heap.IsListIter a a i from h1)
        obtain ⟨o2, q2, c2, _⟩ := (show s.heap.IsList a its.toArray from p)
        rw [q1] at q2
        cases q2
        rw [c1] at c2
        exact absurd c2 (by decide)
      | false =>
        obtain ⟨o1, q1, c1, d1⟩ := (show s.heap.IsTupleIter a a i from h1)
        obtain ⟨o2, q2, c2, _⟩ := (show s.heap.IsTuple a its.toArray from p)
        rw [q1] at q2
        cases q2
        rw [c1] at c2
        exact absurd c2 (by decide)
    have n2 : a2 ≠ i2 := fun e => by
      subst e
      cases c with
      | true =>
        obtain ⟨o1, q1, c1, d1⟩ := (show s.heap.IsListIter a2 a2 i from h2)
        obtain ⟨o2, q2, c2, _⟩ := (show s.heap.IsList a2 its2.toArray from p2)
        rw [q1] at q2
        cases q2
        rw [c1] at c2
        exact absurd c2 (by decide)
      | false =>
        obtain ⟨o1, q1, c1, d1⟩ := (show s.heap.IsTupleIter a2 a2 i from h2)
        obtain ⟨o2, q2, c2, _⟩ := (show s.heap.IsTuple a2 its2.toArray from p2)
        rw [q1] at q2
        cases q2
        rw [c1] at c2
        exact absurd c2 (by decide)
    have m1 := rv.length
    have m2 := rv2.length
    exact wpAny_pyNext_zipD2_end D (drawsK (A := X.A.in1) (I.ok.hd hc) i1 a n1 its.toArray) (drawsK (A := X.A.in1) (I.ok.hd hc) i2 a2 n2 its2.toArray) hz hTI hTO ⟨h1, p⟩ ⟨h2, p2⟩ (by simp; omega) (by simp; omega) (by simp; omega) fun h' tk hk => ⟨rfl, I.turnedL (ch := [z, TI, TO, i1, i2]) (fun d o hb q =>
      hk d o (fun q' => hb (by simp [q'])) (fun q' => hb (by simp [q'])) (fun q' => hb (by simp [q'])) (fun q' => hb (by simp [q'])) q) hf⟩
  self := fun A i s Q E st h => wpAny_pyIter_zip st.1 h
section
variable {X : Cx}
def iZpK (K : PySem.W.Frag) (te tf : TE) : TI := fun σ H R => te σ H fun x H1 => tf σ H1 fun y H2 => ∃ (b c : Bool) (a a2 : Addr) (xs ys : List V), x = .ref a ∧ y = .ref a2 ∧ SqK b K H2 a xs ∧ SqK c K H2 a2 ys ∧ R (ItZ K b c a a2) H2
theorem pi_zpK {e f : Expr} {te tf : TE} {p pos tpos : Pos} {elts : List Expr} {kk : Nat} (hg : Gl X "zip") (hm : X.mg "zip" = none) (he : PE X e te) (hf : PE X f tf) (hs : isStar e = false) (hs2 : isStar f = false) :
    PI X (.Tuple elts kk tpos) (.Call (.Name "zip" p) [e, f] [] pos) (iZpK X.K te tf) := by
  refine ⟨fun pins s σ H R I h => ?_⟩
  have ha : PA X [e, f] (tCons te (tCons tf tNil)) := pa_cons he (pa_cons hf pa_nil (notStar hs2)) (notStar hs)
  refine Call_ (ld_blt I hg hm PyProof.Rows.boot_zip (PyProof.Rows.callWith_type1 (thn (ha.run pos pins s σ H (fun vs H2 => ∃ (b c : Bool) (a a2 : Addr) (xs ys : List V), vs = [.ref a, .ref a2] ∧ SqK b X.K H2 a xs ∧ SqK c X.K H2 a2 ys ∧ R (ItZ X.K b c a a2) H2) I ?_) fun us s1 ⟨vs, H1, I1, r1, q1⟩ => ?_) (notStar hs) ?_))
  · show te σ H fun x H1 => tf σ H1 fun y H2 => ∃ (b c : Bool) (a a2 : Addr) (xs ys : List V), [x, y] = [.ref a, .ref a2] ∧ _
    have h2 : ∀ x : V, (fun (y : V) (H2 : Hp) => ∃ (b c : Bool) (a a2 : Addr) (xs ys : List V), [x, y] = [V.ref a, V.ref a2] ∧ SqK b X.K H2 a xs ∧ SqK c X.K H2 a2 ys ∧ R (ItZ X.K b c a a2) H2) = (fun y H2 => ∃ (b c : Bool) (a a2 : Addr) (xs ys : List V), x = .ref a ∧ y = .ref a2 ∧ SqK b X.K H2 a xs ∧ SqK c X.K H2 a2 ys ∧ R (ItZ X.K b c a a2) H2) := fun x => by
      funext y H2
      simp only [List.cons.injEq, and_true, and_assoc]
    simp only [h2]
    exact h
  · obtain ⟨b, c, a, a2, xs, ys, ex, hq, hq2, q⟩ := q1
    subst ex
    cases r1 with
    | cons r rr =>
      cases rr with
      | cons r' rr =>
        cases rr
        cases r
        cases r'
        obtain ⟨its, rv, p'⟩ := sqK_at I1 hq
        obtain ⟨its2, rv2, p2'⟩ := sqK_at I1 hq2
        refine zip_begins2 (beginsK b a its.toArray) (beginsK c a2 its2.toArray) p' p2' fun h' hz hTI hTO k1 k2 hsz hk => wpAny_pyIter_zip hz ?_
        have I2 : Inv X pins σ H1 { s1 with heap := h' } := I1.kept (t' := s1.toks) hk
        have la := objK_lt p'
        have la2 := objK_lt p2'
        refine ⟨s1.heap.objs.size + 4, [s1.heap.objs.size + 4, s1.heap.objs.size + 2, s1.heap.objs.size + 3, s1.heap.objs.size, s1.heap.objs.size + 1], _, _, H1, rfl, I2, turn_zipK (zip_sep2 (N := s1.heap.objs.size) (fp1 := [a]) (fp2 := [a2]) (by simpa using la) (by simpa using la2)), ⟨hz, hTI, ⟨_, _, hTO⟩, iterO_is k1, iterO_is k2⟩, fun d hcm => ?_, q⟩
        have e' : d = s1.heap.objs.size + 4 ∨ d = s1.heap.objs.size + 2 ∨ d = s1.heap.objs.size + 3 ∨ d = s1.heap.objs.size ∨ d = s1.heap.objs.size + 1 := by simpa using hcm
        have hle : s1.heap.objs.size ≤ d := by
          rcases e' with z | z | z | z | z
          · rw [z]; exact Nat.le_add_right _ _
          · rw [z]; exact Nat.le_add_right _ _
          · rw [z]; exact Nat.le_add_right _ _
          · rw [z]; exact Nat.le_refl _
          · rw [z]; exact Nat.le_add_right _ _
        exact I1.fpOk hle (I1.hok.fresh hle)
  · rw [notStar hs2]
    rfl
end
end Ev
-- EvH
/-! what is walked -/
namespace Ev
open PySem PySem.Spec PyProof.Rows L2
/-- an iterator gives what a source says -/
def SrcIt (g : G) (s : Src) (J : It) (ρ0 : List Addr) (H0 : Hp) : Prop :=
  ∀ (ρ : List Addr) (h : Hh) (H : Hp) (i : Nat), Mono g ρ0 H0 ρ H → Sim g ρ h H →
    (srcAt h s i = some none → J.stop i H) ∧
    (∀ d, srcAt h s i = some (some d) → J.go i H ∧ ∀ x H', J.yld i H x H' → Mono g ρ H ρ H' ∧ Sim g ρ h H' ∧ Rep g ρ H' d x)
def isL : D → Bool
  | .ptr _ => true
  | .frl _ => true
  | _ => false
section
variable {g : G} {ρ : List Addr} {H : Hp} {h : Hh}
theorem items_kind {d : D} {v : V} {ds : List D} (s : Sim g ρ h H) (r : Rep g ρ H d v) (e : itemsOf h d = some ds) :
    ∃ (a : Addr) (vs : List V), v = .ref a ∧ SqK (isL d) g.K H a vs ∧ Reps g ρ H ds vs := by
  cases r with
  | pure r =>
    cases r with
    | tup q rr => cases e; exact ⟨_, _, rfl, q, rr.reps⟩
    | frl q rr => cases e; exact ⟨_, _, rfl, q.seq, rr.reps⟩
    | _ => cases e
  | ptr z =>
    obtain ⟨vs, h1, h2⟩ := s.get (show h[_]? = some ds from e) z
    exact ⟨_, vs, rfl, SqL.of h1, h2⟩
  | mtp q rr => cases e; exact ⟨_, _, rfl, q, rr⟩
/-- the item of a row at a place -/
theorem item_at {ds : List D} {vs : List V} {i : Nat} {d : D} {x : V} (r : Reps g ρ H ds vs) (e : ds[i]? = some d) (ex : vs[i]? = some x) : Rep g ρ H d x := by
  obtain ⟨v, h1, h2⟩ := r.get e
  rw [ex] at h1
  cases h1
  exact h2
theorem src_sq {d : D} {a : Addr} (r0 : Rep g ρ H d (.ref a)) : SrcIt g (.sq d) (match isL d with | true => Itl g.K a | false => Itt g.K a) ρ H := by
  intro ρ1 h1 H1 i m sim
  have r1 := r0.mono m
  have e0 : srcAt h1 (.sq d) i = sqAt h1 d i := rfl
  rw [e0]
  unfold sqAt
  cases c : itemsOf h1 d with
  | none => exact ⟨fun z => (by cases z), fun _ z => (by cases z)⟩
  | some ds =>
    obtain ⟨a', vs, ea, q, rr⟩ := items_kind sim r1 c
    cases ea
    have hl := rr.length
    refine ⟨fun z => ?_, fun e z => ?_⟩
    · have z' : ds[i]? = none := Option.some.inj z
      have := List.getElem?_eq_none_iff.mp z'
      cases k : isL d with
      | true => rw [k] at q; exact ⟨vs, q, by omega⟩
      | false => rw [k] at q; exact ⟨vs, q, by omega⟩
    · have z' : ds[i]? = some e := Option.some.inj z
      obtain ⟨x, hx, rx⟩ := rr.get z'
      cases k : isL d with
      | true =>
        rw [k] at q
        exact ⟨⟨vs, x, q, hx⟩, fun y H' ⟨eh, hy⟩ => by
          subst eh
          exact ⟨Mono.refl g ρ1 _, sim, item_at rr z' (hy vs q)⟩⟩
      | false =>
        rw [k] at q
        exact ⟨⟨vs, x, q, hx⟩, fun y H' ⟨eh, hy⟩ => by
          subst eh
          exact ⟨Mono.refl g ρ1 _, sim, item_at rr z' (hy vs q)⟩⟩
theorem src_en {d : D} {a : Addr} (r0 : Rep g ρ H d (.ref a)) : SrcIt g (.en d) (ItE g.K (isL d) a) ρ H := by
  intro ρ1 h1 H1 i m sim
  have r1 := r0.mono m
  unfold srcAt
  dsimp only
  cases c : itemsOf h1 d with
  | none => exact ⟨fun z => (by cases z), fun _ z => (by cases z)⟩
  | some ds =>
    obtain ⟨a', vs, ea, q, rr⟩ := items_kind sim r1 c
    cases ea
    have hl := rr.length
    dsimp only
    cases c2 : ds[i]? with
    | none =>
      dsimp only
      cases c3 : Nat.beq i ds.length with
      | false => exact ⟨fun z => (by cases z), fun _ z => (by cases z)⟩
      | true =>
        have := Nat.eq_of_beq_eq_true c3
        exact ⟨fun _ => ⟨vs, q, by omega⟩, fun _ z => (by cases z)⟩
    | some x =>
      dsimp only
      refine ⟨fun z => (by cases z), fun e z => ?_⟩
      cases z
      obtain ⟨w, hw, rw'⟩ := rr.get c2
      refine ⟨⟨vs, w, q, hw⟩, fun y H' hy => ?_⟩
      obtain ⟨T, w', rfl, hT, rfl, hall⟩ := hy
      have ew := hall vs q
      have mn : Mono g ρ1 H1 ρ1 (upd H1 T (.tup [.int (i : Nat), w'])) := Mono.new hT
      exact ⟨mn, sim.new hT, Rep.mkT sqt_new (.cons (.pure (.int _)) (.cons ((item_at rr c2 ew).mono mn) .nil))⟩
theorem src_zp {d e : D} {a a2 : Addr} (r0 : Rep g ρ H d (.ref a)) (s0 : Rep g ρ H e (.ref a2)) : SrcIt g (.zp d e) (ItZ g.K (isL d) (isL e) a a2) ρ H := by
  intro ρ1 h1 H1 i m sim
  have r1 := r0.mono m
  have s1 := s0.mono m
  unfold srcAt
  dsimp only
  cases c : itemsOf h1 d with
  | none => exact ⟨fun z => (by cases z), fun _ z => (by cases z)⟩
  | some ds =>
    cases c' : itemsOf h1 e with
    | none => exact ⟨fun z => (by cases z), fun _ z => (by cases z)⟩
    | some es =>
      obtain ⟨a', vs, ea, q, rr⟩ := items_kind sim r1 c
      cases ea
      obtain ⟨b', ws, eb, q2, ss⟩ := items_kind sim s1 c'
      cases eb
      have hl := rr.length
      have hl2 := ss.length
      dsimp only
      have fin : ∀ (o : Option (Option D)), (ds[i]? = none ∨ es[i]? = none) → o = (match Nat.ble i ds.length && Nat.ble i es.length with | true => some none | false => none) → (o = some none → (ItZ g.K (isL d) (isL e) a a2).stop i H1) ∧ (∀ d', o = some (some d') → False) := fun o hn eo => by
        cases c3 : Nat.ble i ds.length && Nat.ble i es.length with
        | false =>
          rw [c3] at eo
          subst eo
          exact ⟨fun z => (by cases z), fun _ z => (by cases z)⟩
        | true =>
          rw [c3] at eo
          subst eo
          obtain ⟨l1, l2⟩ := Bool.and_eq_true_iff.mp c3
          have l1 := Nat.le_of_ble_eq_true l1
          have l2 := Nat.le_of_ble_eq_true l2
          refine ⟨fun _ => ⟨vs, ws, q, q2, by omega, by omega, ?_⟩, fun _ z => (by cases z)⟩
          rcases hn with z | z
          · have := List.getElem?_eq_none_iff.mp z; exact .inl (by omega)
          · have := List.getElem?_eq_none_iff.mp z; exact .inr (by omega)
      cases c2 : ds[i]? with
      | none =>
        obtain ⟨f1, f2⟩ := fin _ (.inl c2) rfl
        exact ⟨f1, fun d' z => (f2 d' z).elim⟩
      | some x =>
        cases c4 : es[i]? with
        | none =>
          obtain ⟨f1, f2⟩ := fin _ (.inr c4) rfl
          exact ⟨f1, fun d' z => (f2 d' z).elim⟩
        | some y =>
          dsimp only
          refine ⟨fun z => (by cases z), fun e' z => ?_⟩
          cases z
          obtain ⟨w, hw, rw'⟩ := rr.get c2
          obtain ⟨w2, hw2, rw2⟩ := ss.get c4
          refine ⟨⟨vs, ws, w, w2, q, q2, hw, hw2⟩, fun y' H' hy => ?_⟩
          obtain ⟨T, u1, u2, rfl, hT, rfl, h1', h2'⟩ := hy
          have e1 := h1' vs q
          have e2 := h2' ws q2
          have mn : Mono g ρ1 H1 ρ1 (upd H1 T (.tup [u1, u2])) := Mono.new hT
          exact ⟨mn, sim.new hT, Rep.mkT sqt_new (.cons ((item_at rr c2 e1).mono mn) (.cons ((item_at ss c4 e2).mono mn) .nil))⟩
theorem src_rg {lo c : Int} {n : Nat} : SrcIt g (.rg lo c n) (Itc lo c n) ρ H := by
  intro ρ1 h1 H1 i m sim
  unfold srcAt
  dsimp only
  cases k : Nat.blt i n with
  | true =>
    have := Nat.le_of_ble_eq_true (show Nat.ble (i + 1) n = true from k)
    refine ⟨fun z => (by cases z), fun d z => ?_⟩
    cases z
    exact ⟨this, fun x H' ⟨e1, e2⟩ => by
      subst e1 e2
      exact ⟨Mono.refl g ρ1 _, sim, .pure (.int _)⟩⟩
  | false =>
    have : n ≤ i := by
      cases Nat.lt_or_ge i n with
      | inl l =>
        have := Nat.ble_eq_true_of_le (show i + 1 ≤ n from l)
        rw [show Nat.blt i n = Nat.ble (i + 1) n from rfl, this] at k
        cases k
      | inr l => exact l
    exact ⟨fun _ => this, fun _ z => (by cases z)⟩
theorem src_rg1 {lo : Int} {n : Nat} : SrcIt g (.rg lo 1 n) (Itr lo n) ρ H := by
  intro ρ1 h1 H1 i m sim
  obtain ⟨k1, k2⟩ := src_rg (g := g) (ρ := ρ) (H := H) (lo := lo) (c := 1) (n := n) ρ1 h1 H1 i m sim
  refine ⟨fun z => k1 z, fun d z => ?_⟩
  obtain ⟨q1, q2⟩ := k2 d z
  exact ⟨q1, fun x H' ⟨e1, e2⟩ => q2 x H' ⟨e1, by rw [e2, Int.mul_one]⟩⟩
end
theorem PI.imp {X : Cx} {tg it : Expr} {t t' : TI} (h : PI X tg it t) (i : ∀ σ H R, t' σ H R → t σ H R) : PI X tg it t' := ⟨fun pins s σ H R I w => h.run pins s σ H R I (i σ H R w)⟩
section
variable {X : Cx} {tg : Expr}
def iSq (K : PySem.W.Frag) (tl : TE) : TI := fun σ H R => tl σ H fun x H1 => ∃ a, x = .ref a ∧ (((∃ xs, SqL K H1 a xs) ∧ R (Itl K a) H1) ∨ ((∃ xs, SqT K H1 a xs) ∧ R (Itt K a) H1))
theorem pi_sq {l : Expr} {tl : TE} (hl : PE X l tl) : PI X tg l (iSq X.K tl) := by
  refine ⟨fun pins s σ H R I h => ?_⟩
  refine thn (hl.run pins s σ H _ I h) fun v s1 ⟨x, H1, I1, r1, q1⟩ => ?_
  obtain ⟨a, e, ⟨⟨xs, hq⟩, q⟩ | ⟨⟨xs, hq⟩, q⟩⟩ := q1
  · subst e
    cases r1
    obtain ⟨its, rv, p, hz⟩ := I1.list hq
    refine wpAny_pyIter_list p.isList ?_
    refine ⟨s1.heap.objs.size, [s1.heap.objs.size], _, _, H1, rfl, I1.kept (t' := s1.toks) fun b o e => Heap.get?_push_of_some _ e, turn_list a _, ⟨_, Heap.get?_push_size _ rfl, rfl, rfl⟩, fun b hb => ?_, q⟩
    have e : b = s1.heap.objs.size := by simpa using hb
    subst e
    exact I1.fpOk (Nat.le_refl _) (I1.hok.fresh (Nat.le_refl _))
  · subst e
    cases r1
    obtain ⟨its, rv, p, hz⟩ := I1.tuple hq
    refine wpAny_pyIter_tuple (show s1.heap.IsTuple a its.toArray from p) ?_
    refine ⟨s1.heap.objs.size, [s1.heap.objs.size], _, _, H1, rfl, I1.kept (t' := s1.toks) fun b o e => Heap.get?_push_of_some _ e, turn_tuple a _, ⟨_, Heap.get?_push_size _ rfl, rfl, rfl⟩, fun b hb => ?_, q⟩
    have e : b = s1.heap.objs.size := by simpa using hb
    subst e
    exact I1.fpOk (Nat.le_refl _) (I1.hok.fresh (Nat.le_refl _))
end
section
variable (P : Pg) (g : G)
def tI (n : Nat) (e : I) : TI := fun σ H R => ∃ (ρ : List Addr) (h : Hh) (sg : Sg), Sim g ρ h H ∧ EnvR g ρ H sg σ ∧ Run g ρ H (ki fun s h' ρ' H' => ∀ J, SrcIt g s J ρ' H' → R J H') (ev P n e sg h)
end
end Ev
-- EvI
/-! expressions -/
namespace Ev
open PySem PySem.Spec PyProof.Rows L2
/-- what the module's names stand for -/
structure MgOk (P : Pg) (g : G) (M : Nm) (mg : Str → Option Value) : Prop where
  free : ∀ x ∈ M.free, mg x = none
  fn : ∀ (f : Nat) (x : Str) (ps : List Str), M.fs[f]? = some (x, ps) → mg x = some (.ref (g.fa f)) ∧ PySem.W.keepIn g.K (.ref (g.fa f)) = true
  con : ∀ (k : Nat) (x : Str) (d : D), M.cs[k]? = some x → P.cs[k]? = some d → ∃ (u : Value) (v : V), mg x = some u ∧ RelV v u ∧ ∀ H, RepP g H d v
  dic : ∀ (k : Nat) (x : Str) (ks : List (Int × D)), M.ds[k]? = some x → P.ds[k]? = some ks → ∃ a, mg x = some (.ref a) ∧ ∀ i d, lookI i ks = some d → ∃ v, KI g.K a i v ∧ ∀ H, RepP g H d v
/-- where an expression stands -/
structure XOk (P : Pg) (g : G) (M : Nm) (N : List Str) (X : Cx) (sc so : Scope) (n : Nat) : Prop where
  hK : X.K = g.K
  hN : X.N = N
  hsc : X.env.scope = sc
  nd : N.Nodup
  calm : X.calm = true
  room : Room n X.A
  mg : MgOk P g M X.mg
  loc : ∀ x, so.names.lookup x = some .local → sc.names.lookup x = some .local
  cel : ∀ x, so.names.lookup x = some .cell → sc.names.lookup x = some .cell ∧ X.fn x = true
  kind : sc.kind = .function
  pg : PgOk P g M X.K
theorem XOk.down {P : Pg} {g : G} {M : Nm} {N : List Str} {X : Cx} {sc so : Scope} {n : Nat} (k : XOk P g M N X sc so (n + 1)) : XOk P g M N X sc so n :=
  ⟨k.hK, k.hN, k.hsc, k.nd, k.calm, k.room.mono (Nat.le_succ n), k.mg, k.loc, k.cel, k.kind, k.pg⟩
def spEv (P : Pg) (g : G) (n f : Nat) : Sp := fun vs H Q _ => ∃ (ρ : List Addr) (h : Hh) (ds : List D), Sim g ρ h H ∧ Reps g ρ H ds vs ∧ Run g ρ H (ke Q) (callF P n f ds h)
/-- the defs keep what the evaluator says -/
def FnsOk (P : Pg) (g : G) (M : Nm) (X : Cx) (n : Nat) : Prop := ∀ (f : Nat) (x : Str) (ps : List Str), M.fs[f]? = some (x, ps) →
  ∃ fd, FnOk X.prog X.w X.K X.mg X.base CX0 (n + 1) (g.fa f) fd ps (spEv P g n f) ∧ Binds X.K fd ps []
/-- what holds at a depth -/
structure Main (P : Pg) (g : G) (M : Nm) (n : Nat) : Prop where
  mE : ∀ (N : List Str) (X : Cx) (sc so : Scope), XOk P g M N X sc so n → ∀ (i : I) (e : Expr), ckE M N sc i e = true → PE X e (tE P g n i)
  mT : ∀ (N : List Str) (X : Cx) (sc so : Scope), XOk P g M N X sc so n → ∀ (i : I) (e : Expr), ckT M N sc i e = true → PT X e (tT P g n i)
  mA : ∀ (N : List Str) (X : Cx) (sc so : Scope), XOk P g M N X sc so n → ∀ (i : I) (e : List Expr), ckA M N sc i e = true → PA X e (tA P g n i)
  mI : ∀ (N : List Str) (X : Cx) (sc so : Scope), XOk P g M N X sc so n → ∀ (i : I) (e t : Expr), ckI M N sc i e = true → tgOk i t = true → PI X t e (tI P g n i)
  mAnd : ∀ (N : List Str) (X : Cx) (sc so : Scope), XOk P g M N X sc so n → ∀ (i : I) (es : List Expr) (pos : Pos), ckAnd M N sc i es = true → PE X (.BoolOp .And es pos) (tE P g n i)
  mOr : ∀ (N : List Str) (X : Cx) (sc so : Scope), XOk P g M N X sc so n → ∀ (i : I) (es : List Expr) (pos : Pos), ckOr M N sc i es = true → PE X (.BoolOp .Or es pos) (tE P g n i)
  mTAnd : ∀ (N : List Str) (X : Cx) (sc so : Scope), XOk P g M N X sc so n → ∀ (i : I) (es : List Expr) (pos : Pos), ckTAnd M N sc i es = true → PW X (.BoolOp .And es pos) (tT P g n i)
  mTOr : ∀ (N : List Str) (X : Cx) (sc so : Scope), XOk P g M N X sc so n → ∀ (i : I) (es : List Expr) (pos : Pos), ckTOr M N sc i es = true → PW X (.BoolOp .Or es pos) (tT P g n i)
  mO : ∀ (N : List Str) (X : Cx) (sc so : Scope), XOk P g M N X sc so n → ∀ (i : I) (o : Option Expr), ckO M N sc i o = true → PO X o (fun σ H Q => ∃ (ρ : List Addr) (h : Hh) (sg : Sg), Sim g ρ h H ∧ EnvR g ρ H sg σ ∧
    (match ev P n i sg h with | .ok d h' => ∃ p, part d = some p ∧ ∀ (ρ' : List Addr) (H' : Hp), Mono g ρ H ρ' H' → Sim g ρ' h' H' → Q p H' | _ => False))
  mL : ∀ (N : List Str) (X : Cx) (sc : Scope), XOk P g M N X sc sc n → ∀ (i : I) (e : Expr) (y : Str) (py pos : Pos) (j : Nat), ckE M N sc i e = true → lcB sc (.Name y py) e = some true → N[j]? = some y → PS X (.Assign [.Name y py] e pos) (tAsg (tE P g n i) (gName j))
  mS : ∀ (N : List Str) (X : Cx) (sc : Scope), XOk P g M N X sc sc n → PassesOwn (model X.prog X.w) X.A X.env X.xe → ∀ (i : I) (s : Stmt), ckS M N sc i s = true → PS X s (tS P g n i)
  mSs : ∀ (N : List Str) (X : Cx) (sc : Scope), XOk P g M N X sc sc n → PassesOwn (model X.prog X.w) X.A X.env X.xe → ∀ (i : I) (ss : List Stmt), ckSs M N sc i ss = true → PSs X ss (tS P g n i)
  mF : ∀ (N : List Str) (X : Cx) (sc so : Scope), XOk P g M N X sc so (n + 1) → FnsOk P g M X n
section
variable {P : Pg} {g : G} {M : Nm} {N : List Str} {X : Cx} {sc so : Scope} {n : Nat}
theorem bnd {a b : Bool} (h : (a && b) = true) : a = true ∧ b = true := Bool.and_eq_true_iff.mp h
theorem notb {a : Bool} (h : (!a) = true) : a = false := by cases a <;> first | rfl | cases h
theorem visB_ok {x : Str} (h : visB sc x = true) : Vis sc x ∧ (x == ("__debug__" : Str)) = false ∧ (x == ("__classdict__" : Str)) = false := by
  unfold visB at h
  obtain ⟨h, h3⟩ := bnd h
  obtain ⟨h, h2⟩ := bnd h
  refine ⟨?_, by simpa using h2, by simpa using h3⟩
  unfold Vis
  split at h
  · exact .inl (by assumption)
  · exact .inr (.inl (by assumption))
  · exact .inr (.inr (by assumption))
  · cases h
theorem glB_ok {x : Str} (k : XOk P g M N X sc so n) (h : glB sc x = true) : Gl X x ∧ (x == ("__debug__" : Str)) = false := by
  unfold glB at h
  obtain ⟨h, h2⟩ := bnd h
  refine ⟨?_, by simpa using h2⟩
  unfold Gl Env.kindOf
  rw [k.hsc]
  split at h
  · assumption
  · cases h
theorem bltB_ok {x y : Str} (k : XOk P g M N X sc so n) (h : bltB M sc x y = true) : x = y ∧ Gl X x ∧ X.mg x = none ∧ (x == ("__debug__" : Str)) = false := by
  unfold bltB at h
  obtain ⟨h, h3⟩ := bnd h
  obtain ⟨h1, h2⟩ := bnd h
  obtain ⟨a, b⟩ := glB_ok k h2
  exact ⟨of_decide_eq_true h1, a, k.mg.free x (of_decide_eq_true h3), b⟩
/-- a value at once -/
theorem Run.val {ρ : List Addr} {H : Hp} {h : Hh} {d : D} {v : V} {Q : VK} (hr : Run g ρ H (ke Q) (.ok d h)) (s : Sim g ρ h H) (r : Rep g ρ H d v) : Q v H := hr.mk s r
theorem s_var (k : XOk P g M N X sc so n) {i : Nat} {e : Expr} (c : ckE M N sc (.var i) e = true) : PE X e (tE P g (n + 1) (.var i)) := by
  unfold ckE at c
  split at c
  · rename_i x pos
    obtain ⟨c1, c2⟩ := bnd c
    obtain ⟨v1, v2, v3⟩ := visB_ok c2
    refine PE.imp (pe_var (i := i) (by rw [k.hN]; exact of_decide_eq_true c1) (by rw [k.hsc]; exact v1) v2 v3) fun σ H Q hr => ?_
    obtain ⟨ρ, h, sg, sim, er, hr⟩ := hr
    have hr : Run g ρ H (ke Q) (getV sg i h) := hr
    unfold getV at hr
    cases e1 : sg[i]? with
    | none => rw [e1] at hr; exact (show False from hr).elim
    | some d =>
      rw [e1] at hr
      dsimp only at hr
      cases e2 : isUna d with
      | true => rw [e2] at hr; exact (show False from hr).elim
      | false =>
        rw [e2] at hr
        obtain ⟨v, h1, h2⟩ := er.at_ i d e1 e2
        exact ⟨v, h1, hr.mk sim h2⟩
  · cases c
theorem tC_imp {d : D} {v : V} {i : I} (he : ∀ (sg : Sg) (h : Hh), ev P (n + 1) i sg h = .ok d h) (hd : ∀ (ρ : List Addr) (H : Hp), Rep g ρ H d v) : ∀ σ H Q, tE P g (n + 1) i σ H Q → tC v σ H Q := fun σ H Q hr => by
  obtain ⟨ρ, h, sg, sim, er, hr⟩ := hr
  rw [he] at hr
  exact hr.mk sim (hd ρ H)
theorem s_cst (k : XOk P g M N X sc so n) {d : D} {e : Expr} (c : ckE M N sc (.cst d) e = true) : PE X e (tE P g (n + 1) (.cst d)) := by
  unfold ckE at c
  split at c
  · rename_i cc kk pos
    split at c
    · split at c
      · exact PE.imp pe_non (tC_imp (fun _ _ => rfl) fun _ _ => .pure .non)
      · cases c
    · split at c
      · obtain rfl := of_decide_eq_true c
        exact PE.imp pe_bl (tC_imp (fun _ _ => rfl) fun _ _ => .pure (.bl _))
      · cases c
    · split at c
      · obtain rfl := of_decide_eq_true c
        exact PE.imp pe_int (tC_imp (fun _ _ => rfl) fun _ _ => .pure (.int _))
      · cases c
    · split at c
      · obtain rfl := of_decide_eq_true c
        exact PE.imp pe_str (tC_imp (fun _ _ => rfl) fun _ _ => .pure (.str _))
      · cases c
    · cases c
  · cases c
theorem s_glb (k : XOk P g M N X sc so n) {i : Nat} {e : Expr} (c : ckE M N sc (.glb i) e = true) : PE X e (tE P g (n + 1) (.glb i)) := by
  unfold ckE at c
  split at c
  · rename_i x pos
    obtain ⟨c1, c2⟩ := bnd c
    obtain ⟨g1, g2⟩ := glB_ok k c2
    have hx := of_decide_eq_true c1
    refine ⟨fun pins s σ H Q I hr => ?_⟩
    obtain ⟨ρ, h, sg, sim, er, hr⟩ := hr
    have hr : Run g ρ H (ke Q) (match P.cs[i]? with | some d => .ok d h | none => .no) := hr
    cases e1 : P.cs[i]? with
    | none => rw [e1] at hr; exact (show False from hr).elim
    | some d =>
      rw [e1] at hr
      obtain ⟨u, v, m1, m2, m3⟩ := k.mg.con i x d hx e1
      exact (pe_glob (pos := pos) g1 m1 m2 g2).run pins s σ H Q I (Run.mk hr sim (.pure (m3 H)))
  · cases c
theorem s_bin (ih : Main P g M n) (k : XOk P g M N X sc so (n + 1)) {o : BOp} {a b : I} {e : Expr} (c : ckE M N sc (.bin o a b) e = true) : PE X e (tE P g (n + 1) (.bin o a b)) := by
  unfold ckE at c
  split at c
  · rename_i x p y pos
    obtain ⟨c, c3⟩ := bnd c
    obtain ⟨c1, c2⟩ := bnd c
    obtain rfl := bopB_ok c1
    refine PE.imp (pe_op (op_bin k.hK o) (ih.mE N X sc so k.down a x c2) (ih.mE N X sc so k.down b y c3)) fun σ H Q hr => ?_
    obtain ⟨ρ, h, sg, sim, er, hr⟩ := hr
    refine ⟨ρ, h, sg, sim, er, Run.on (show Run g ρ H (ke Q) ((ev P n a sg h).on fun x h1 => (ev P n b sg h1).on fun y h2 => binop o x y h2) from hr) fun d h1 ρ1 H1 v m1 s1 r1 hr1 => ?_⟩
    refine ⟨ρ1, h1, sg, s1, er.mono m1, hr1.on fun d2 h2 ρ2 H2 v2 m2 s2 r2 hr2 => ?_⟩
    exact ⟨ρ2, h2, d, d2, s2, r1.mono m2, r2, hr2⟩
  · cases c
theorem behind_ok {op : CmpOp} {b : Expr} (h : isSet b = false) : behindInMarks op b = false := by
  cases b <;> first | rfl | cases h
theorem s_cmp (ih : Main P g M n) (k : XOk P g M N X sc so (n + 1)) {o : COp} {a b : I} {e : Expr} (c : ckE M N sc (.cmp o a b) e = true) : PE X e (tE P g (n + 1) (.cmp o a b)) := by
  unfold ckE at c
  split at c
  · rename_i x ps ys pos
    split at c
    · rename_i p y
      obtain ⟨c, c4⟩ := bnd c
      obtain ⟨c, c3⟩ := bnd c
      obtain ⟨c1, c2⟩ := bnd c
      obtain rfl := copB_ok c1
      refine PE.imp (pe_cmpR (op_cop k.hK k.room.units o) (ih.mE N X sc so k.down a x c2) (ih.mE N X sc so k.down b y c3) (behind_ok (notb c4))) fun σ H Q hr => ?_
      obtain ⟨ρ, h, sg, sim, er, hr⟩ := hr
      refine ⟨ρ, h, sg, sim, er, Run.on (show Run g ρ H (ke Q) ((ev P n a sg h).on fun x h1 => (ev P n b sg h1).on fun y h2 => cmpop o x y h2) from hr) fun d h1 ρ1 H1 v m1 s1 r1 hr1 => ?_⟩
      refine ⟨ρ1, h1, sg, s1, er.mono m1, hr1.on fun d2 h2 ρ2 H2 v2 m2 s2 r2 hr2 => ?_⟩
      exact ⟨ρ2, h2, d, d2, s2, r1.mono m2, r2, hr2⟩
    · cases c
  · cases c
theorem Run.onbT {ρ : List Addr} {H : Hp} {k : Kt} {r : R} {f : Bool → Hh → R} (hr : Run g ρ H k (r.onb f)) : ∃ d h' b, r = .ok d h' ∧ tru h' d = some b ∧ Run g ρ H k (f b h') := by
  cases r with
  | ok d h' =>
    have hr' : Run g ρ H k (match tru h' d with | some b => f b h' | none => .no) := hr
    cases e : tru h' d with
    | none => rw [e] at hr'; exact (show False from hr').elim
    | some b => rw [e] at hr'; exact ⟨d, h', b, rfl, e, hr'⟩
  | _ => exact (show False from hr).elim
/-- a comparison of ints gives a truth value -/
theorem cop_bl {o : COp} {ρ : List Addr} {H : Hp} {d e : D} {x y : V} {h : Hh} (co : copI o = true) (sim : Sim g ρ h H) (rd : Rep g ρ H d x) (re : Rep g ρ H e y) {d2 : D} {h2 : Hh} (er : cmpop o d e h = .ok d2 h2) : ∃ b, d2 = .bl b ∧ h2 = h := by
  cases o <;> first | (cases co; done) | (unfold cmpop intI at er; dsimp only at er; cases d <;> cases e <;> first | (cases er; exact ⟨_, rfl, rfl⟩) | cases er)
theorem lm_ok {op op' : CmpOp} {b c : Expr} (h : isSet c = false) : lastMarks [op, op'] [b, c] = false := behind_ok h
theorem chn_imp (ih : Main P g M n) {o p : COp} {a b c : I} (ho : copI o = true) : ∀ σ H Q, tE P g (n + 1) (.chn o p a b c) σ H Q → tChain (rCop g o) (rCop g p) (tE P g n a) (tE P g n b) (tE P g n c) σ H Q := fun σ H Q hr => by
  obtain ⟨ρ, h, sg, sim, er, hr⟩ := hr
  refine ⟨ρ, h, sg, sim, er, Run.on (show Run g ρ H (ke Q) ((ev P n a sg h).on fun x h1 => (ev P n b sg h1).on fun y h2 => (cmpop o x y h2).onb fun k h3 => match k with
      | true => (ev P n c sg h3).on fun z h4 => cmpop p y z h4
      | false => .ok (.bl false) h3) from hr) fun d h1 ρ1 H1 v m1 s1 r1 hr1 => ?_⟩
  refine ⟨ρ1, h1, sg, s1, er.mono m1, hr1.on fun d2 h2 ρ2 H2 v2 m2 s2 r2 hr2 => ?_⟩
  obtain ⟨d3, h3, b3, e3, t3, hr3⟩ := hr2.onbT
  obtain ⟨b4, rfl, rfl⟩ := cop_bl ho s2 (r1.mono m2) r2 e3
  have : b3 = b4 := by
    have : some b4 = some b3 := t3
    exact (Option.some.inj this).symm
  subst this
  refine ⟨ρ2, h3, d, d2, s2, r1.mono m2, r2, ?_⟩
  rw [e3]
  intro ρ' H' v' m' s' r'
  obtain rfl := r'.bl
  refine ⟨b3, rfl, ?_⟩
  cases b3 with
  | true =>
    rw [if_pos rfl]
    have hr4 : Run g ρ2 H2 (ke Q) ((ev P n c sg h3).on fun z h4 => cmpop p d2 z h4) := hr3
    refine ⟨ρ', h3, sg, s', (er.mono m1).mono (m2.trans m'), (Run.base m' hr4).on fun d5 h5 ρ5 H5 v5 m5 s5 r5 hr5 => ?_⟩
    exact ⟨ρ5, h5, d2, d5, s5, (r2.mono m').mono m5, r5, hr5⟩
  | false =>
    rw [if_neg Bool.false_ne_true]
    have hr4 : Run g ρ2 H2 (ke Q) (.ok (.bl false) h3) := hr3
    exact (Run.base m' hr4).mk s' (.pure (.bl _))
theorem s_chn (ih : Main P g M n) (k : XOk P g M N X sc so (n + 1)) {o p : COp} {a b c : I} {e : Expr} (ck : ckE M N sc (.chn o p a b c) e = true) : PE X e (tE P g (n + 1) (.chn o p a b c)) := by
  unfold ckE at ck
  split at ck
  · rename_i x qs ys pos
    split at ck
    · rename_i q r y z
      obtain ⟨ck, c8⟩ := bnd ck
      obtain ⟨ck, c7⟩ := bnd ck
      obtain ⟨ck, c6⟩ := bnd ck
      obtain ⟨ck, c5⟩ := bnd ck
      obtain ⟨ck, c4⟩ := bnd ck
      obtain ⟨ck, c3⟩ := bnd ck
      obtain ⟨c1, c2⟩ := bnd ck
      obtain rfl := copB_ok c1
      obtain rfl := copB_ok c2
      exact PE.imp (pe_chain (op_cop k.hK k.room.units o) (op_cop k.hK k.room.units p) (ih.mE N X sc so k.down a x c5) (ih.mE N X sc so k.down b y c6) (ih.mE N X sc so k.down c z c7) (lm_ok (notb c8))) (chn_imp ih c3)
    · cases ck
  · cases ck
theorem s_neg (ih : Main P g M n) (k : XOk P g M N X sc so (n + 1)) {a : I} {e : Expr} (c : ckE M N sc (.neg a) e = true) : PE X e (tE P g (n + 1) (.neg a)) := by
  unfold ckE at c
  split at c
  · rename_i p x pos
    obtain ⟨c1, c2⟩ := bnd c
    cases p <;> first | (cases c1; done) | skip
    refine PE.imp (pe_un un_neg (ih.mE N X sc so k.down a x c2)) fun σ H Q hr => ?_
    obtain ⟨ρ, h, sg, sim, er, hr⟩ := hr
    refine ⟨ρ, h, sg, sim, er, Run.on (show Run g ρ H (ke Q) ((ev P n a sg h).on fun x h1 => match x with
      | .int i => .ok (.int (-i)) h1
      | _ => .no) from hr) fun d h1 ρ1 H1 v m1 s1 r1 hr1 => ?_⟩
    cases d with
    | int i =>
      obtain rfl := r1.int
      exact ⟨i, rfl, Run.mk hr1 s1 (.pure (.int _))⟩
    | _ => exact (show False from hr1).elim
  · cases c
theorem s_tup (ih : Main P g M n) (k : XOk P g M N X sc so (n + 1)) {a : I} {e : Expr} (c : ckE M N sc (.tup a) e = true) : PE X e (tE P g (n + 1) (.tup a)) := by
  unfold ckE at c
  split at c
  · rename_i es kk pos
    refine PE.imp (pe_tup (ih.mA N X sc so k.down a es c)) fun σ H Q hr => ?_
    obtain ⟨ρ, h, sg, sim, er, hr⟩ := hr
    refine ⟨ρ, h, sg, sim, er, Run.ons (show Run g ρ H (ke Q) ((ev P n a sg h).ons fun ds h1 => match Nat.ble ds.length line with
      | true => .ok (mkT ds) h1
      | false => .no) from hr) fun ds h1 ρ1 H1 vs m1 s1 r1 hr1 => ?_⟩
    cases z : Nat.ble ds.length line with
    | false => rw [z] at hr1; exact (show False from hr1).elim
    | true =>
      rw [z] at hr1
      exact ⟨by rw [← r1.length]; exact line_le z, fun p np => Run.newT hr1 s1 r1 np⟩
  · cases c
theorem s_lst (ih : Main P g M n) (k : XOk P g M N X sc so (n + 1)) {a : I} {e : Expr} (c : ckE M N sc (.lst a) e = true) : PE X e (tE P g (n + 1) (.lst a)) := by
  unfold ckE at c
  split at c
  · rename_i es pos
    refine PE.imp (pe_lst (ih.mA N X sc so k.down a es c)) fun σ H Q hr => ?_
    obtain ⟨ρ, h, sg, sim, er, hr⟩ := hr
    refine ⟨ρ, h, sg, sim, er, Run.ons (show Run g ρ H (ke Q) ((ev P n a sg h).ons fun ds h1 => match Nat.ble ds.length line with
      | true => newL h1 ds
      | false => .no) from hr) fun ds h1 ρ1 H1 vs m1 s1 r1 hr1 => ?_⟩
    cases z : Nat.ble ds.length line with
    | false => rw [z] at hr1; exact (show False from hr1).elim
    | true =>
      rw [z] at hr1
      exact ⟨by rw [← r1.length]; exact line_le z, fun p np => Run.newL hr1 s1 r1 np⟩
  · cases c
theorem plainIx {s : Expr} (h : isSlice s = false) : PlainIx s := fun o i => by
  cases s <;> first | rfl | cases h
theorem s_ix (ih : Main P g M n) (k : XOk P g M N X sc so (n + 1)) {a i : I} {e : Expr} (c : ckE M N sc (.ix a i) e = true) : PE X e (tE P g (n + 1) (.ix a i)) := by
  unfold ckE at c
  split at c
  · rename_i o s pos
    obtain ⟨c, c3⟩ := bnd c
    obtain ⟨c1, c2⟩ := bnd c
    refine PE.imp (pe_ix (ix_idx k.hK) (ih.mE N X sc so k.down a o c1) (ih.mE N X sc so k.down i s c2) (plainIx (notb c3))) fun σ H Q hr => ?_
    obtain ⟨ρ, h, sg, sim, er, hr⟩ := hr
    refine ⟨ρ, h, sg, sim, er, Run.on (show Run g ρ H (ke Q) ((ev P n a sg h).on fun x h1 => (ev P n i sg h1).on fun y h2 => index x y h2) from hr) fun d h1 ρ1 H1 v m1 s1 r1 hr1 => ?_⟩
    refine ⟨ρ1, h1, sg, s1, er.mono m1, hr1.on fun d2 h2 ρ2 H2 v2 m2 s2 r2 hr2 => ?_⟩
    exact ⟨ρ2, h2, d, d2, s2, r1.mono m2, r2, hr2⟩
  · cases c
theorem s_gdx (ih : Main P g M n) (k : XOk P g M N X sc so (n + 1)) {j : Nat} {i : I} {e : Expr} (c : ckE M N sc (.gdx j i) e = true) : PE X e (tE P g (n + 1) (.gdx j i)) := by
  unfold ckE at c
  split at c
  · rename_i o s pos
    obtain ⟨c, c3⟩ := bnd c
    obtain ⟨c1, c2⟩ := bnd c
    split at c1
    · rename_i x p c0
      obtain ⟨d1, d2⟩ := bnd c1
      have hx := of_decide_eq_true d1
      obtain ⟨g1, g2⟩ := glB_ok k d2
      refine ⟨fun pins s' σ H Q I hr => ?_⟩
      obtain ⟨ρ, h, sg, sim, er, hr⟩ := hr
      have hr : Run g ρ H (ke Q) ((ev P n i sg h).on fun x h1 => match x with
        | .int i => match P.ds[j]? with
          | some ks => match lookI i ks with
            | some d => .ok d h1
            | none => .no
          | none => .no
        | _ => .no) := hr
      cases e1 : P.ds[j]? with
      | none =>
        rw [e1] at hr
        exfalso
        cases q : ev P n i sg h with
        | ok d h1 =>
          rw [q] at hr
          cases d <;> exact (show False from hr)
        | _ => rw [q] at hr; exact (show False from hr)
      | some ks =>
        rw [e1] at hr
        obtain ⟨a, m1, m2⟩ := k.mg.dic j x ks hx e1
        refine (pe_ix (ix_kint (X := X)) (pe_glob (v := .ref a) (pos := p) g1 m1 rfl g2) (ih.mE N X sc so k.down i s c2) (plainIx (notb c3))).run pins s' σ H Q I ?_
        refine ⟨ρ, h, sg, sim, er, Run.on hr fun d h1 ρ1 H1 v mm s1 r1 hr1 => ?_⟩
        cases d with
        | int z =>
          dsimp only at hr1
          cases e2 : lookI z ks with
          | none => rw [e2] at hr1; exact (show False from hr1).elim
          | some dd =>
            rw [e2] at hr1
            obtain rfl := r1.int
            obtain ⟨w, ki, rp⟩ := m2 z dd e2
            rw [← k.hK] at ki
            exact ⟨a, z, w, rfl, rfl, ki, Run.mk hr1 s1 (.pure (rp H1))⟩
        | _ => exact (show False from hr1).elim
    · cases c1
  · cases c
end
end Ev
-- EvJ
/-! expressions, further -/
namespace Ev
open PySem PySem.Spec PyProof.Rows L2
section
variable {P : Pg} {g : G} {M : Nm} {N : List Str} {X : Cx} {sc so : Scope} {n : Nat}
theorem and_imp {a b : I} {t : TE} (hb : ∀ σ H Q, tE P g n b σ H Q → t σ H Q) : ∀ σ H Q, tE P g (n + 1) (.and a b) σ H Q → tAndV (tE P g n a) t σ H Q := fun σ H Q hr => by
  obtain ⟨ρ, h, sg, sim, er, hr⟩ := hr
  refine ⟨ρ, h, sg, sim, er, Run.on (show Run g ρ H (ke Q) ((ev P n a sg h).on fun x h1 => match x with
      | .bl true => ev P n b sg h1
      | .bl false => .ok (.bl false) h1
      | _ => .no) from hr) fun d h1 ρ1 H1 v m1 s1 r1 hr1 => ?_⟩
  cases d with
  | bl c =>
    obtain rfl := r1.bl
    refine ⟨c, rfl, ?_⟩
    cases c with
    | true => rw [if_pos rfl]; exact hb _ _ _ ⟨ρ1, h1, sg, s1, er.mono m1, hr1⟩
    | false => rw [if_neg Bool.false_ne_true]; exact Run.mk hr1 s1 (.pure (.bl _))
  | _ => exact (show False from hr1).elim
theorem or_imp {a b : I} {t : TE} (hb : ∀ σ H Q, tE P g n b σ H Q → t σ H Q) : ∀ σ H Q, tE P g (n + 1) (.or a b) σ H Q → tOrV (tE P g n a) t σ H Q := fun σ H Q hr => by
  obtain ⟨ρ, h, sg, sim, er, hr⟩ := hr
  refine ⟨ρ, h, sg, sim, er, Run.on (show Run g ρ H (ke Q) ((ev P n a sg h).on fun x h1 => match x with
      | .bl false => ev P n b sg h1
      | .bl true => .ok (.bl true) h1
      | _ => .no) from hr) fun d h1 ρ1 H1 v m1 s1 r1 hr1 => ?_⟩
  cases d with
  | bl c =>
    obtain rfl := r1.bl
    refine ⟨c, rfl, ?_⟩
    cases c with
    | false => rw [if_neg Bool.false_ne_true]; exact hb _ _ _ ⟨ρ1, h1, sg, s1, er.mono m1, hr1⟩
    | true => rw [if_pos rfl]; exact Run.mk hr1 s1 (.pure (.bl _))
  | _ => exact (show False from hr1).elim
theorem s_and (ih : Main P g M n) (k : XOk P g M N X sc so (n + 1)) {a b : I} {e : Expr} (c : ckE M N sc (.and a b) e = true) : PE X e (tE P g (n + 1) (.and a b)) := by
  unfold ckE at c
  split at c
  · split at c
    · obtain ⟨c1, c2⟩ := bnd c
      exact PE.imp (pe_and (ih.mE N X sc so k.down a _ c1) (ih.mAnd N X sc so k.down b _ _ c2)) (and_imp fun _ _ _ q => q)
    · cases c
  · cases c
theorem s_or (ih : Main P g M n) (k : XOk P g M N X sc so (n + 1)) {a b : I} {e : Expr} (c : ckE M N sc (.or a b) e = true) : PE X e (tE P g (n + 1) (.or a b)) := by
  unfold ckE at c
  split at c
  · split at c
    · obtain ⟨c1, c2⟩ := bnd c
      exact PE.imp (pe_or (ih.mE N X sc so k.down a _ c1) (ih.mOr N X sc so k.down b _ _ c2)) (or_imp fun _ _ _ q => q)
    · cases c
  · cases c
theorem one_imp {a : I} : ∀ σ H Q, tE P g (n + 1) (.one a) σ H Q → tE P g n a σ H Q := fun _ _ _ hr => hr
theorem m_And (ih : Main P g M n) (k : XOk P g M N X sc so (n + 1)) (i : I) (es : List Expr) (pos : Pos) (c : ckAnd M N sc i es = true) : PE X (.BoolOp .And es pos) (tE P g (n + 1) i) := by
  unfold ckAnd at c
  split at c
  · split at c
    · obtain ⟨c1, c2⟩ := bnd c
      exact PE.imp (pe_and (ih.mE N X sc so k.down _ _ c1) (ih.mAnd N X sc so k.down _ _ _ c2)) (and_imp fun _ _ _ q => q)
    · cases c
  · split at c
    · exact PE.imp (pe_one (ih.mE N X sc so k.down _ _ c)) one_imp
    · cases c
  · cases c
theorem m_Or (ih : Main P g M n) (k : XOk P g M N X sc so (n + 1)) (i : I) (es : List Expr) (pos : Pos) (c : ckOr M N sc i es = true) : PE X (.BoolOp .Or es pos) (tE P g (n + 1) i) := by
  unfold ckOr at c
  split at c
  · split at c
    · obtain ⟨c1, c2⟩ := bnd c
      exact PE.imp (pe_or (ih.mE N X sc so k.down _ _ c1) (ih.mOr N X sc so k.down _ _ _ c2)) (or_imp fun _ _ _ q => q)
    · cases c
  · split at c
    · exact PE.imp (pe_one (ih.mE N X sc so k.down _ _ c)) one_imp
    · cases c
  · cases c
theorem s_not (ih : Main P g M n) (k : XOk P g M N X sc so (n + 1)) {a : I} {e : Expr} (c : ckE M N sc (.not a) e = true) : PE X e (tE P g (n + 1) (.not a)) := by
  unfold ckE at c
  split at c
  · rename_i p x pos
    obtain ⟨c1, c2⟩ := bnd c
    cases p <;> first | (cases c1; done) | skip
    refine PE.imp (pe_notT (ih.mE N X sc so k.down a x c2)) fun σ H Q hr => ?_
    obtain ⟨ρ, h, sg, sim, er, hr⟩ := hr
    obtain ⟨d, h', b, e1, e2, hr1⟩ := Run.onbT (show Run g ρ H (ke Q) ((ev P n a sg h).onb fun b h1 => .ok (.bl !b) h1) from hr)
    refine ⟨ρ, h, sg, sim, er, ?_⟩
    rw [e1]
    intro ρ' H' v m s r
    refine ⟨b, ?_, ?_⟩
    · rw [k.hK]; exact tru_ok' s r e2
    · exact (Run.base m hr1).mk s (.pure (.bl _))
  · cases c
theorem s_ife (ih : Main P g M n) (k : XOk P g M N X sc so (n + 1)) {t a b : I} {e : Expr} (c : ckE M N sc (.ife t a b) e = true) : PE X e (tE P g (n + 1) (.ife t a b)) := by
  unfold ckE at c
  split at c
  · rename_i q x y pos
    obtain ⟨c, c3⟩ := bnd c
    obtain ⟨c1, c2⟩ := bnd c
    refine PE.imp (pe_ifExp (ih.mT N X sc so k.down t q c1) (ih.mE N X sc so k.down a x c2) (ih.mE N X sc so k.down b y c3)) fun σ H Q hr => ?_
    obtain ⟨ρ, h, sg, sim, er, hr⟩ := hr
    refine ⟨ρ, h, sg, sim, er, Run.onb (show Run g ρ H (ke Q) ((ev P n t sg h).onb fun k h1 => match k with
      | true => ev P n a sg h1
      | false => ev P n b sg h1) from hr) fun c h1 ρ1 H1 m1 s1 hr1 => ?_⟩
    cases c with
    | true => rw [if_pos rfl]; exact ⟨ρ1, h1, sg, s1, er.mono m1, hr1⟩
    | false => rw [if_neg Bool.false_ne_true]; exact ⟨ρ1, h1, sg, s1, er.mono m1, hr1⟩
  · cases c
def rSl (g : G) : V → Option Int → Option Int → Hp → VK → Prop := fun x lo hi H Q => ∃ l u, rSlice g l u x lo hi H Q
theorem sl_slA (hK : X.K = g.K) : SlR X (rSl g) := by
  intro pins s σ H x v vl vu lo hi sl Q I rx hs pl pu hr
  obtain ⟨l, u, hr⟩ := hr
  exact sl_sl hK l u pins s σ H x v vl vu lo hi sl Q I rx hs pl pu hr
theorem slice_l {d l u : D} {h : Hh} (e : part l = none) : slice d l u h = .no := by
  unfold slice
  rw [e]
theorem slice_u {d l u : D} {h : Hh} (e : part u = none) : slice d l u h = .no := by
  unfold slice
  rw [e]
  cases part l <;> rfl
theorem s_sl (ih : Main P g M n) (k : XOk P g M N X sc so (n + 1)) {a lo hi : I} {e : Expr} (c : ckE M N sc (.sl a lo hi) e = true) : PE X e (tE P g (n + 1) (.sl a lo hi)) := by
  unfold ckE at c
  split at c
  · rename_i o s pos
    split at c
    · rename_i l u st p2
      obtain ⟨c, c4⟩ := bnd c
      obtain ⟨c, c3⟩ := bnd c
      obtain ⟨c1, c2⟩ := bnd c
      cases st with
      | some z => cases c4
      | none =>
        refine PE.imp (pe_slice (sl_slA k.hK) (ih.mE N X sc so k.down a o c1) (ih.mO N X sc so k.down lo l c2) (ih.mO N X sc so k.down hi u c3)) fun σ H Q hr => ?_
        obtain ⟨ρ, h, sg, sim, er, hr⟩ := hr
        refine ⟨ρ, h, sg, sim, er, Run.on (show Run g ρ H (ke Q) ((ev P n a sg h).on fun x h1 => (ev P n lo sg h1).on fun l h2 => (ev P n hi sg h2).on fun u h3 => slice x l u h3) from hr) fun d h1 ρ1 H1 v m1 s1 r1 hr1 => ?_⟩
        refine ⟨ρ1, h1, sg, s1, er.mono m1, ?_⟩
        cases e1 : ev P n lo sg h1 with
        | ok dl h2 =>
          rw [e1] at hr1
          have hr1 : Run g ρ1 H1 (ke Q) ((ev P n hi sg h2).on fun u h3 => slice d dl u h3) := hr1
          cases e2 : ev P n hi sg h2 with
          | ok du h3 =>
            rw [e2] at hr1
            have hr1 : Run g ρ1 H1 (ke Q) (slice d dl du h3) := hr1
            cases p1 : part dl with
            | none => rw [slice_l p1] at hr1; exact (show False from hr1).elim
            | some pl =>
              cases p3 : part du with
              | none => rw [slice_u p3] at hr1; exact (show False from hr1).elim
              | some pu =>
                refine ⟨pl, p1, fun ρ2 H2 m2 s2 => ?_⟩
                refine ⟨ρ2, h2, sg, s2, (er.mono m1).mono m2, ?_⟩
                rw [e2]
                refine ⟨pu, p3, fun ρ3 H3 m3 s3 => ?_⟩
                exact ⟨dl, du, ρ3, h3, d, s3, (r1.mono m2).mono m3, p1, p3, Run.base (m2.trans m3) hr1⟩
          | _ => rw [e2] at hr1; exact (show False from hr1).elim
        | _ => rw [e1] at hr1; exact (show False from hr1).elim
    · cases c
  · cases c
theorem m_O (ih : Main P g M n) (k : XOk P g M N X sc so (n + 1)) (i : I) (o : Option Expr) (c : ckO M N sc i o = true) : PO X o (fun σ H Q => ∃ (ρ : List Addr) (h : Hh) (sg : Sg), Sim g ρ h H ∧ EnvR g ρ H sg σ ∧
    (match ev P (n + 1) i sg h with | .ok d h' => ∃ p, part d = some p ∧ ∀ (ρ' : List Addr) (H' : Hp), Mono g ρ H ρ' H' → Sim g ρ' h' H' → Q p H' | _ => False)) := by
  unfold ckO at c
  split at c
  · cases o with
    | some _ => cases c
    | none =>
      refine ⟨fun pins s σ H Q I hr => po_none.run pins s σ H Q I ?_⟩
      obtain ⟨ρ, h, sg, sim, er, p, e, q⟩ := hr
      cases e
      exact q ρ H (Mono.refl _ _ _) sim
  · split at c
    · rename_i a0 o e
      refine ⟨fun pins s σ H Q I hr => (po_some (ih.mE N X sc so k.down _ _ c)).run pins s σ H Q I ?_⟩
      obtain ⟨ρ, h, sg, sim, er, hr⟩ := hr
      refine ⟨ρ, h, sg, sim, er, ?_⟩
      have hr : (match (ev P n a0 sg h).on fun d h1 => match d with
          | .int i => .ok (.int i) h1
          | _ => .no with | .ok d h' => ∃ p, part d = some p ∧ ∀ (ρ' : List Addr) (H' : Hp), Mono g ρ H ρ' H' → Sim g ρ' h' H' → Q p H' | _ => False) := hr
      cases e1 : ev P n a0 sg h with
      | ok d h1 =>
        rw [e1] at hr
        intro ρ' H' v m s' r
        cases d with
        | int z =>
          obtain ⟨p, e2, q⟩ := hr
          cases e2
          obtain rfl := r.int
          exact ⟨z, rfl, q ρ' H' m s'⟩
        | _ => exact (show False from hr).elim
      | _ => rw [e1] at hr; exact (show False from hr).elim
    · cases c
  · cases c
end
end Ev
-- EvL
/-! argument lists, tests, iterables, calls, built-ins, methods -/
namespace Ev
open PySem PySem.Spec PyProof.Rows L2
section
variable {X : Cx}
def tStar (K : PySem.W.Frag) (te : TE) (t : TA) : TA := fun σ H Q => te σ H fun x H1 => ∃ (a : Addr) (xs : List V), x = .ref a ∧ (SqT K H1 a xs ∨ SqL K H1 a xs) ∧ t σ H1 fun ys H2 => Q (xs ++ ys) H2
theorem pa_star {e : Expr} {p : Pos} {es : List Expr} {te : TE} {t : TA} (he : PE X e te) (hr : PA X es t) : PA X (.Starred e p :: es) (tStar X.K te t) := by
  refine ⟨fun pos pins s σ H Q I h => ?_⟩
  refine PySem.W.items_star (thn (he.run pins s σ H _ I h) fun v s1 ⟨x, H1, I1, r1, a, xs, ex, q, hh⟩ => ?_)
  subst ex
  cases r1
  refine StX.star_any I1 q fun us s2 I2 r2 => ?_
  exact thn (hr.run pos pins s2 σ H1 _ I2 hh) fun ws s3 ⟨ys, H2, I3, r3, q3⟩ => ⟨xs ++ ys, H2, I3, r2.append r3, q3⟩
theorem noStars {es : List Expr} {env : Env} {pos : Pos} (h : (es.all fun e => !isStar e) = true) : (backTo pos (starEach es env)).any (·.1) = false := by
  induction es with
  | nil => rfl
  | cons e es ih =>
    rw [List.all_cons] at h
    obtain ⟨h1, h2⟩ := Bool.and_eq_true_iff.mp h
    rw [notStar (by simpa using h1)]
    show (false || (backTo pos (starEach es env)).any (·.1)) = false
    rw [ih h2]
    rfl
end
section
variable {P : Pg} {g : G} {M : Nm} {N : List Str} {X : Cx} {sc so : Scope} {n : Nat}
theorem m_A (ih : Main P g M n) (k : XOk P g M N X sc so (n + 1)) (i : I) (es : List Expr) (c : ckA M N sc i es = true) : PA X es (tA P g (n + 1) i) := by
  unfold ckA at c
  split at c
  · cases es with
    | cons _ _ => cases c
    | nil =>
      refine PA.imp pa_nil fun σ H Q hr => ?_
      obtain ⟨ρ, h, sg, sim, er, hr⟩ := hr
      exact (show Run g ρ H (ka Q) (.oks [] h) from hr) ρ H [] (Mono.refl _ _ _) sim .nil
  · split at c
    · rename_i a r _ e es
      obtain ⟨c, c3⟩ := bnd c
      obtain ⟨c1, c2⟩ := bnd c
      refine PA.imp (pa_cons (ih.mE N X sc so k.down _ e c1) (ih.mA N X sc so k.down _ es c2) (notStar (notb c3))) fun σ H Q hr => ?_
      obtain ⟨ρ, h, sg, sim, er, hr⟩ := hr
      refine ⟨ρ, h, sg, sim, er, Run.on (show Run g ρ H (ka Q) ((ev P n _ sg h).on fun d h1 => (ev P n _ sg h1).ons fun ds h2 => .oks (d :: ds) h2) from hr) fun d h1 ρ1 H1 v m1 s1 r1 hr1 => ?_⟩
      refine ⟨ρ1, h1, sg, s1, er.mono m1, hr1.ons fun ds h2 ρ2 H2 vs m2 s2 r2 hr2 => ?_⟩
      exact hr2 ρ2 H2 (v :: vs) (Mono.refl _ _ _) s2 (.cons (r1.mono m2) r2)
    · cases c
  · split at c
    · rename_i a r _ e es
      obtain ⟨c1, c2⟩ := bnd c
      split at c1
      · refine PA.imp (pa_star (ih.mE N X sc so k.down _ _ c1) (ih.mA N X sc so k.down _ es c2)) fun σ H Q hr => ?_
        obtain ⟨ρ, h, sg, sim, er, hr⟩ := hr
        refine ⟨ρ, h, sg, sim, er, Run.on (show Run g ρ H (ka Q) ((ev P n _ sg h).on fun d h1 => match itemsOf h1 d with
          | some es => (ev P n _ sg h1).ons fun ds h2 => .oks (es ++ ds) h2
          | none => .no) from hr) fun d h1 ρ1 H1 v m1 s1 r1 hr1 => ?_⟩
        cases e1 : itemsOf h1 d with
        | none => rw [e1] at hr1; exact (show False from hr1).elim
        | some fs =>
          rw [e1] at hr1
          obtain ⟨a, vs, rfl, q, rr⟩ := items_seq s1 r1 e1
          rw [← k.hK] at q
          refine ⟨a, vs, rfl, q.symm, ρ1, h1, sg, s1, er.mono m1, Run.ons (show Run g ρ1 H1 (ka Q) ((ev P n _ sg h1).ons fun ds h2 => .oks (fs ++ ds) h2) from hr1) fun ds h2 ρ2 H2 ws m2 s2 r2 hr2 => ?_⟩
          exact hr2 ρ2 H2 (vs ++ ws) (Mono.refl _ _ _) s2 ((rr.mono m2).append r2)
      · cases c1
    · cases c
  · cases c
/-! tests -/
theorem RunT.ofE {ρ : List Addr} {H : Hp} {Q : Bool → Hp → Prop} {r : R} (hr : RunT g ρ H Q r) : Run g ρ H (ke fun x H1 => ∃ b, TruV g.K x H1 b ∧ Q b H1) r := by
  cases r with
  | ok d h' =>
    obtain ⟨b, e, q⟩ := hr
    exact fun ρ' H' v m s rr => ⟨b, tru_ok' s rr e, q ρ' H' m s ⟨v, rr⟩⟩
  | _ => exact (show False from hr).elim
/-- a truth value that is told as a test -/
theorem tTest_imp {i : I} {t : TE} (hb : ∀ σ H Q, tE P g n i σ H Q → t σ H Q) (bl : ∀ (sg : Sg) (h : Hh) (d : D) (h' : Hh), ev P n i sg h = .ok d h' → ∃ b, d = .bl b) : ∀ σ H Q, tT P g n i σ H Q → tTest t σ H Q := fun σ H Q hr => by
  obtain ⟨ρ, h, sg, sim, er, hr⟩ := hr
  refine hb _ _ _ ⟨ρ, h, sg, sim, er, ?_⟩
  cases e : ev P n i sg h with
  | ok d h' =>
    rw [e] at hr
    obtain ⟨b, eb⟩ := bl sg h d h' e
    subst eb
    obtain ⟨c, ec, q⟩ := hr
    cases ec
    exact fun ρ' H' v m s rr => ⟨b, rr.bl, q ρ' H' m s ⟨v, rr⟩⟩
  | _ => rw [e] at hr; exact (show False from hr).elim
theorem oB_bl {o : Option Bool} {f : Bool → Bool} {h : Hh} {d : D} {h' : Hh} (e : oB o f h = .ok d h') : ∃ b, d = .bl b := by
  cases o with
  | none => cases e
  | some b => cases e; exact ⟨_, rfl⟩
theorem intI_bl {x y : D} {f : Int → Int → Bool} {h : Hh} {d : D} {h' : Hh} (e : intI x y f h = .ok d h') : ∃ b, d = .bl b := by
  unfold intI at e
  cases x <;> cases y <;> first | (cases e; exact ⟨_, rfl⟩) | cases e
theorem cmpop_bl {o : COp} {x y : D} {h : Hh} {d : D} {h' : Hh} (e : cmpop o x y h = .ok d h') : ∃ b, d = .bl b := by
  cases o with
  | eq => exact oB_bl e
  | ne => exact oB_bl e
  | lt => exact intI_bl e
  | le => exact intI_bl e
  | gt => exact intI_bl e
  | ge => exact intI_bl e
  | inn => exact oB_bl e
  | nin => exact oB_bl e
  | isN => unfold cmpop at e; cases y <;> first | exact oB_bl e | cases e
  | notN => unfold cmpop at e; cases y <;> first | exact oB_bl e | cases e
theorem on_ok {r : R} {f : D → Hh → R} {d : D} {h : Hh} (e : r.on f = .ok d h) : ∃ d1 h1, r = .ok d1 h1 ∧ f d1 h1 = .ok d h := by
  cases r with
  | ok d1 h1 => exact ⟨d1, h1, rfl, e⟩
  | _ => cases e
theorem cmp_bl {o : COp} {a b : I} (sg : Sg) (h : Hh) (d : D) (h' : Hh) (e : ev P (n + 1) (.cmp o a b) sg h = .ok d h') : ∃ b, d = .bl b := by
  obtain ⟨d1, h1, _, e⟩ := on_ok (show ((ev P n a sg h).on fun x h1 => (ev P n b sg h1).on fun y h2 => cmpop o x y h2) = .ok d h' from e)
  obtain ⟨d2, h2, _, e⟩ := on_ok e
  exact cmpop_bl e
theorem onb_ok {r : R} {f : Bool → Hh → R} {d : D} {h : Hh} (e : r.onb f = .ok d h) : ∃ b h1, f b h1 = .ok d h := by
  cases r with
  | ok d1 h1 =>
    have e' : (match tru h1 d1 with | some b => f b h1 | none => .no) = .ok d h := e
    cases c : tru h1 d1 with
    | none => rw [c] at e'; cases e'
    | some b => rw [c] at e'; exact ⟨b, h1, e'⟩
  | _ => cases e
theorem chn_bl {o p : COp} {a b c : I} (sg : Sg) (h : Hh) (d : D) (h' : Hh) (e : ev P (n + 1) (.chn o p a b c) sg h = .ok d h') : ∃ b, d = .bl b := by
  obtain ⟨d1, h1, _, e⟩ := on_ok (show ((ev P n a sg h).on fun x h1 => (ev P n b sg h1).on fun y h2 => (cmpop o x y h2).onb fun k h3 => match k with
      | true => (ev P n c sg h3).on fun z h4 => cmpop p y z h4
      | false => .ok (.bl false) h3) = .ok d h' from e)
  obtain ⟨d2, h2, _, e⟩ := on_ok e
  obtain ⟨k, h3, e⟩ := onb_ok e
  cases k with
  | true =>
    obtain ⟨d4, h4, _, e⟩ := on_ok (show ((ev P n c sg h3).on fun z h4 => cmpop p d2 z h4) = .ok d h' from e)
    exact cmpop_bl e
  | false => cases e; exact ⟨_, rfl⟩
theorem plainT_ok {e : Expr} {env : Env} (h : plainT e = true) : ∀ whole, isTrue e env whole = (do let v ← whole; standAt e.pos; holding [v] (truthy v)) := fun whole => by
  cases e with
  | UnaryOp op a pos => cases op <;> first | rfl | cases h
  | _ => first | rfl | cases h
theorem RunT.and_inv {ρ : List Addr} {H : Hp} {Q : Bool → Hp → Prop} {a b : I} {sg : Sg} {h : Hh} (sim : Sim g ρ h H)
    (hr : RunT g ρ H Q (ev P (n + 1) (.and a b) sg h)) : RunT g ρ H (fun c H1 => if c = true then (∀ σ, EnvR g ρ H sg σ → tT P g n b σ H1 Q) else Q false H1) (ev P n a sg h) := by
  have hr : RunT g ρ H Q ((ev P n a sg h).on fun x h1 => match x with
      | .bl true => ev P n b sg h1
      | .bl false => .ok (.bl false) h1
      | _ => .no) := hr
  cases e : ev P n a sg h with
  | ok d h1 =>
    rw [e] at hr
    cases d with
    | bl c =>
      refine ⟨c, rfl, fun ρ' H' m s rr => ?_⟩
      cases c with
      | true =>
        rw [if_pos rfl]
        refine fun σ er => ⟨ρ', h1, sg, s, er.mono m, ?_⟩
        have hr : RunT g ρ H Q (ev P n b sg h1) := hr
        cases e2 : ev P n b sg h1 with
        | ok d2 h2 =>
          rw [e2] at hr
          obtain ⟨c2, ec2, q⟩ := hr
          exact ⟨c2, ec2, fun ρ2 H2 m2 s2 rr2 => q ρ2 H2 (m.trans m2) s2 rr2⟩
        | _ => rw [e2] at hr; exact (show False from hr).elim
      | false =>
        rw [if_neg Bool.false_ne_true]
        obtain ⟨c2, ec2, q⟩ := (show RunT g ρ H Q (.ok (.bl false) h1) from hr)
        cases ec2
        exact q ρ' H' m s ⟨.bl false, .pure (.bl _)⟩
    | _ => exact (show False from hr).elim
  | _ => rw [e] at hr; exact (show False from hr).elim
theorem RunT.or_inv {ρ : List Addr} {H : Hp} {Q : Bool → Hp → Prop} {a b : I} {sg : Sg} {h : Hh} (sim : Sim g ρ h H)
    (hr : RunT g ρ H Q (ev P (n + 1) (.or a b) sg h)) : RunT g ρ H (fun c H1 => if c = true then Q true H1 else (∀ σ, EnvR g ρ H sg σ → tT P g n b σ H1 Q)) (ev P n a sg h) := by
  have hr : RunT g ρ H Q ((ev P n a sg h).on fun x h1 => match x with
      | .bl false => ev P n b sg h1
      | .bl true => .ok (.bl true) h1
      | _ => .no) := hr
  cases e : ev P n a sg h with
  | ok d h1 =>
    rw [e] at hr
    cases d with
    | bl c =>
      refine ⟨c, rfl, fun ρ' H' m s rr => ?_⟩
      cases c with
      | false =>
        rw [if_neg Bool.false_ne_true]
        refine fun σ er => ⟨ρ', h1, sg, s, er.mono m, ?_⟩
        have hr : RunT g ρ H Q (ev P n b sg h1) := hr
        cases e2 : ev P n b sg h1 with
        | ok d2 h2 =>
          rw [e2] at hr
          obtain ⟨c2, ec2, q⟩ := hr
          exact ⟨c2, ec2, fun ρ2 H2 m2 s2 rr2 => q ρ2 H2 (m.trans m2) s2 rr2⟩
        | _ => rw [e2] at hr; exact (show False from hr).elim
      | true =>
        rw [if_pos rfl]
        obtain ⟨c2, ec2, q⟩ := (show RunT g ρ H Q (.ok (.bl true) h1) from hr)
        cases ec2
        exact q ρ' H' m s ⟨.bl true, .pure (.bl _)⟩
    | _ => exact (show False from hr).elim
  | _ => rw [e] at hr; exact (show False from hr).elim
theorem tand_imp {a b : I} : ∀ σ H Q, tT P g (n + 1) (.and a b) σ H Q → tAnd (tT P g n a) (tT P g n b) σ H Q := fun σ H Q hr => by
  obtain ⟨ρ, h, sg, sim, er, hr⟩ := hr
  refine ⟨ρ, h, sg, sim, er, ?_⟩
  have q := RunT.and_inv sim hr
  cases e : ev P n a sg h with
  | ok d h1 =>
    rw [e] at q
    obtain ⟨c, ec, q⟩ := q
    refine ⟨c, ec, fun ρ' H' m s rr => ?_⟩
    have q' := q ρ' H' m s rr
    cases c with
    | true => rw [if_pos rfl] at q'; show (if true = true then tT P g n b σ H' Q else Q false H'); rw [if_pos rfl]; exact q' σ er
    | false => rw [if_neg Bool.false_ne_true] at q'; show (if false = true then tT P g n b σ H' Q else Q false H'); rw [if_neg Bool.false_ne_true]; exact q'
  | _ => rw [e] at q; exact (show False from q).elim
theorem tor_imp {a b : I} : ∀ σ H Q, tT P g (n + 1) (.or a b) σ H Q → tOr (tT P g n a) (tT P g n b) σ H Q := fun σ H Q hr => by
  obtain ⟨ρ, h, sg, sim, er, hr⟩ := hr
  refine ⟨ρ, h, sg, sim, er, ?_⟩
  have q := RunT.or_inv sim hr
  cases e : ev P n a sg h with
  | ok d h1 =>
    rw [e] at q
    obtain ⟨c, ec, q⟩ := q
    refine ⟨c, ec, fun ρ' H' m s rr => ?_⟩
    have q' := q ρ' H' m s rr
    cases c with
    | false => rw [if_neg Bool.false_ne_true] at q'; show (if false = true then Q true H' else tT P g n b σ H' Q); rw [if_neg Bool.false_ne_true]; exact q' σ er
    | true => rw [if_pos rfl] at q'; show (if true = true then Q true H' else tT P g n b σ H' Q); rw [if_pos rfl]; exact q'
  | _ => rw [e] at q; exact (show False from q).elim
theorem tnot_imp {a : I} : ∀ σ H Q, tT P g (n + 1) (.not a) σ H Q → tT P g n a σ H (fun b => Q (!b)) := fun σ H Q hr => by
  obtain ⟨ρ, h, sg, sim, er, hr⟩ := hr
  refine ⟨ρ, h, sg, sim, er, ?_⟩
  have hr : RunT g ρ H Q ((ev P n a sg h).onb fun b h1 => .ok (.bl !b) h1) := hr
  cases e : ev P n a sg h with
  | ok d h1 =>
    rw [e] at hr
    have hr : RunT g ρ H Q (match tru h1 d with | some b => .ok (.bl !b) h1 | none => .no) := hr
    cases e2 : tru h1 d with
    | none => rw [e2] at hr; exact (show False from hr).elim
    | some b =>
      rw [e2] at hr
      obtain ⟨c3, e3, q⟩ := hr
      cases e3
      exact ⟨b, e2, fun ρ' H' m s rr => q ρ' H' m s ⟨.bl _, .pure (.bl _)⟩⟩
  | _ => rw [e] at hr; exact (show False from hr).elim
theorem cmp_imp {o : COp} {a b : I} : ∀ σ H Q, tE P g (n + 1) (.cmp o a b) σ H Q → tOp (rCop g o) (tE P g n a) (tE P g n b) σ H Q := fun σ H Q hr => by
  obtain ⟨ρ, h, sg, sim, er, hr⟩ := hr
  refine ⟨ρ, h, sg, sim, er, Run.on (show Run g ρ H (ke Q) ((ev P n a sg h).on fun x h1 => (ev P n b sg h1).on fun y h2 => cmpop o x y h2) from hr) fun d h1 ρ1 H1 v m1 s1 r1 hr1 => ?_⟩
  refine ⟨ρ1, h1, sg, s1, er.mono m1, hr1.on fun d2 h2 ρ2 H2 v2 m2 s2 r2 hr2 => ?_⟩
  exact ⟨ρ2, h2, d, d2, s2, r1.mono m2, r2, hr2⟩
theorem m_T (ih : Main P g M n) (k : XOk P g M N X sc so (n + 1)) (i : I) (e : Expr) (c : ckT M N sc i e = true) : PT X e (tT P g (n + 1) i) := by
  unfold ckT at c
  split at c
  · split at c
    · split at c
      · obtain ⟨c1, c2⟩ := bnd c
        exact PT.imp (PW.pt (pw_and (ih.mT N X sc so k.down _ _ c1) (ih.mTAnd N X sc so k.down _ _ _ c2))) tand_imp
      · cases c
    · cases c
  · split at c
    · split at c
      · obtain ⟨c1, c2⟩ := bnd c
        exact PT.imp (PW.pt (pw_or (ih.mT N X sc so k.down _ _ c1) (ih.mTOr N X sc so k.down _ _ _ c2))) tor_imp
      · cases c
    · cases c
  · split at c
    · rename_i p x pos
      obtain ⟨c1, c2⟩ := bnd c
      cases p <;> first | (cases c1; done) | skip
      exact PT.imp (pt_not (ih.mT N X sc so k.down _ _ c2)) tnot_imp
    · cases c
  · split at c
    · split at c
      · obtain ⟨c, c4⟩ := bnd c
        obtain ⟨c, c3⟩ := bnd c
        obtain ⟨c1, c2⟩ := bnd c
        obtain rfl := copB_ok c1
        exact PT.imp (pt_cmpR (op_cop k.hK k.room.units _) (ih.mE N X sc so k.down _ _ c2) (ih.mE N X sc so k.down _ _ c3) (behind_ok (notb c4))) (tTest_imp cmp_imp cmp_bl)
      · cases c
    · cases c
  · split at c
    · split at c
      · obtain ⟨c, c8⟩ := bnd c
        obtain ⟨c, c7⟩ := bnd c
        obtain ⟨c, c6⟩ := bnd c
        obtain ⟨c, c5⟩ := bnd c
        obtain ⟨c, c4⟩ := bnd c
        obtain ⟨c, c3⟩ := bnd c
        obtain ⟨c1, c2⟩ := bnd c
        obtain rfl := copB_ok c1
        obtain rfl := copB_ok c2
        exact PT.imp (pt_chain (op_cop k.hK k.room.units _) (op_cop k.hK k.room.units _) (ih.mE N X sc so k.down _ _ c5) (ih.mE N X sc so k.down _ _ c6) (ih.mE N X sc so k.down _ _ c7) (lm_ok (notb c8))) (tTest_imp (chn_imp ih c3) chn_bl)
      · cases c
    · cases c
  · obtain ⟨c1, c2⟩ := bnd c
    refine PT.imp (pt_truth (ih.mE N X sc so k.down _ _ c1) (plainT_ok c2)) fun σ H Q hr => ?_
    obtain ⟨ρ, h, sg, sim, er, hr⟩ := hr
    refine ⟨ρ, h, sg, sim, er, ?_⟩
    rw [k.hK]
    exact RunT.ofE hr
  · cases c
theorem m_TAnd (ih : Main P g M n) (k : XOk P g M N X sc so (n + 1)) (i : I) (es : List Expr) (pos : Pos) (c : ckTAnd M N sc i es = true) : PW X (.BoolOp .And es pos) (tT P g (n + 1) i) := by
  unfold ckTAnd at c
  split at c
  · split at c
    · obtain ⟨c1, c2⟩ := bnd c
      exact PW.imp (pw_and (ih.mT N X sc so k.down _ _ c1) (ih.mTAnd N X sc so k.down _ _ _ c2)) tand_imp
    · cases c
  · split at c
    · exact PW.imp (pw_and1 (ih.mT N X sc so k.down _ _ c)) fun _ _ _ hr => hr
    · cases c
  · cases c
theorem m_TOr (ih : Main P g M n) (k : XOk P g M N X sc so (n + 1)) (i : I) (es : List Expr) (pos : Pos) (c : ckTOr M N sc i es = true) : PW X (.BoolOp .Or es pos) (tT P g (n + 1) i) := by
  unfold ckTOr at c
  split at c
  · split at c
    · obtain ⟨c1, c2⟩ := bnd c
      exact PW.imp (pw_or (ih.mT N X sc so k.down _ _ c1) (ih.mTOr N X sc so k.down _ _ _ c2)) tor_imp
    · cases c
  · split at c
    · exact PW.imp (pw_or1 (ih.mT N X sc so k.down _ _ c)) fun _ _ _ hr => hr
    · cases c
  · cases c
end
end Ev
-- EvM
/-! calls, built-ins, methods -/
namespace Ev
open PySem PySem.Spec PyProof.Rows L2
section
variable {P : Pg} {g : G} {M : Nm} {N : List Str} {X : Cx} {sc so : Scope} {n : Nat}
theorem stars1 {e : Expr} {es : List Expr} {env : Env} {pos : Pos} (h : ((e :: es).all fun e => !isStar e) = true) : starEach (e :: es) env = (false, eval e env) :: starEach es env ∧ (backTo pos (starEach es env)).any (·.1) = false := by
  rw [List.all_cons] at h
  obtain ⟨h1, h2⟩ := bnd h
  exact ⟨notStar (notb h1), noStars h2⟩
theorem s_cal (ih : Main P g M n) (k : XOk P g M N X sc so (n + 1)) {f : Nat} {a : I} {e : Expr} (c : ckE M N sc (.cal f a) e = true) : PE X e (tE P g (n + 1) (.cal f a)) := by
  unfold ckE at c
  split at c
  · rename_i fn es ks pos
    obtain ⟨c, c5⟩ := bnd c
    obtain ⟨c, c4⟩ := bnd c
    obtain ⟨c, c3⟩ := bnd c
    obtain ⟨c1, c2⟩ := bnd c
    cases fn with
    | Name x p =>
      have c1 : (match M.fs[f]? with
        | some (y, _) => decide (x = y) && glB sc x
        | none => false) = true := c1
      cases hfs : M.fs[f]? with
      | none => rw [hfs] at c1; cases c1
      | some yp =>
        obtain ⟨y, ps⟩ := yp
        rw [hfs] at c1
        obtain ⟨d1, d2⟩ := bnd c1
        obtain rfl := of_decide_eq_true d1
        obtain ⟨g1, g2⟩ := glB_ok k d2
        cases ks with
        | cons _ _ => cases c3
        | nil =>
          cases es with
          | nil => cases c4
          | cons e es =>
            obtain ⟨st1, st2⟩ := stars1 (env := X.env) (pos := pos) c5
            obtain ⟨fd, F, B⟩ := ih.mF N X sc so k f x ps hfs
            obtain ⟨m1, m2⟩ := k.mg.fn f x ps hfs
            rw [← k.hK] at m2
            refine PE.imp (pe_call (E := fun _ _ _ => False) F k.room g1 m1 m2 B .nil pass0 (ih.mA N X sc so k.down a _ c2) g2 st1 st2) fun σ H Q hr => ?_
            obtain ⟨ρ, h, sg, sim, er, hr⟩ := hr
            refine ⟨ρ, h, sg, sim, er, Run.ons (show Run g ρ H (ke Q) ((ev P n a sg h).ons fun ds h1 => callF P n f ds h1) from hr) fun ds h1 ρ1 H1 vs m1 s1 r1 hr1 => ?_⟩
            rw [List.append_nil]
            exact ⟨ρ1, h1, ds, s1, r1, hr1⟩
    | _ => cases c1
  · cases c
theorem tCB_imp {b : Bi} {a : I} : ∀ σ H Q, tE P g (n + 1) (.blt b a) σ H Q → tCB (rBi g b) (tA P g n a) σ H Q := fun σ H Q hr => by
  obtain ⟨ρ, h, sg, sim, er, hr⟩ := hr
  refine ⟨ρ, h, sg, sim, er, Run.ons (show Run g ρ H (ke Q) ((ev P n a sg h).ons fun ds h1 => builtin b ds h1) from hr) fun ds h1 ρ1 H1 vs m1 s1 r1 hr1 => ?_⟩
  exact ⟨ρ1, h1, ds, s1, r1, hr1⟩
theorem boot_f {x : Str} {id : String} (h : (match bootBuiltins x with | some (.builtin i) => decide (i = id) | _ => false) = true) : bootBuiltins x = some (.builtin id) := by
  split at h
  · rename_i i e
    rw [e, of_decide_eq_true h]
  · cases h
theorem s_bltF (ih : Main P g M n) (k : XOk P g M N X sc so (n + 1)) {b : Bi} {a : I} {id : String} {x : Str} {p pos : Pos} {es : List Expr} (hc : CallR X (.builtin id) (rBi g b)) (hv : bootBuiltins (biName b) = some (.builtin id)) (hn : biName b ≠ "__name__")
    (c1 : bltB M sc x (biName b) = true) (c : (ckA M N sc a es && !es.isEmpty && es.all fun e => !isStar e) = true) : PE X (.Call (.Name x p) es [] pos) (tE P g (n + 1) (.blt b a)) := by
  obtain ⟨rfl, g1, g2, g3⟩ := bltB_ok k c1
  obtain ⟨c, c5⟩ := bnd c
  obtain ⟨c2, c4⟩ := bnd c
  cases es with
  | nil => cases c4
  | cons e es =>
    obtain ⟨st1, st2⟩ := stars1 (env := X.env) (pos := pos) c5
    exact PE.imp (pe_callB hc g1 g2 hv (ih.mA N X sc so k.down a _ c2) hn g3 st1 st2) tCB_imp
theorem s_bltT (ih : Main P g M n) (k : XOk P g M N X sc so (n + 1)) {b : Bi} {a : I} {id : String} {x : Str} {p pos : Pos} {es : List Expr} (hc : CallR X (.type id) (rBi g b)) (hv : bootBuiltins (biName b) = some (.type id)) (hn : biName b ≠ "__name__")
    (c1 : bltB M sc x (biName b) = true) (c : (ckA M N sc a es && !es.isEmpty && es.all fun e => !isStar e) = true) : PE X (.Call (.Name x p) es [] pos) (tE P g (n + 1) (.blt b a)) := by
  obtain ⟨rfl, g1, g2, g3⟩ := bltB_ok k c1
  obtain ⟨c, c5⟩ := bnd c
  obtain ⟨c2, c4⟩ := bnd c
  cases es with
  | nil => cases c4
  | cons e es =>
    obtain ⟨st1, st2⟩ := stars1 (env := X.env) (pos := pos) c5
    exact PE.imp (pe_callTy hc g1 g2 hv (ih.mA N X sc so k.down a _ c2) hn g3 st1 st2) tCB_imp
theorem isi_imp {b : Bi} {T : String} {a : I} : ∀ σ H Q, tE P g (n + 1) (.isi b a) σ H Q → tCB (rIsi g b T) (tCons (tE P g n a) (tCons (tC (.ty T)) tNil)) σ H Q := fun σ H Q hr => by
  obtain ⟨ρ, h, sg, sim, er, hr⟩ := hr
  refine ⟨ρ, h, sg, sim, er, Run.on (show Run g ρ H (ke Q) ((ev P n a sg h).on fun d h1 => builtin b [d] h1) from hr) fun d h1 ρ1 H1 v m1 s1 r1 hr1 => ?_⟩
  exact ⟨v, ρ1, h1, d, rfl, s1, r1, hr1⟩
theorem boot_isi : bootBuiltins "isinstance" = some (.builtin "isinstance") := by decide
theorem isi_ty (b : Bi) (h : isiB b = true) : ∃ T, ((b = .isIntB ∧ T = "int") ∨ (b = .isBoolB ∧ T = "bool") ∨ (b = .isTupB ∧ T = "tuple")) ∧ bootBuiltins (isiN b) = some (.type T) ∧ isiN b ≠ "__name__" := by
  cases b <;> first | (cases h; done) | skip
  · exact ⟨"int", .inl ⟨rfl, rfl⟩, by decide, by decide⟩
  · exact ⟨"bool", .inr (.inl ⟨rfl, rfl⟩), by decide, by decide⟩
  · exact ⟨"tuple", .inr (.inr ⟨rfl, rfl⟩), by decide, by decide⟩
theorem s_isi (ih : Main P g M n) (k : XOk P g M N X sc so (n + 1)) {b : Bi} {a : I} {e : Expr} (c : ckE M N sc (.isi b a) e = true) : PE X e (tE P g (n + 1) (.isi b a)) := by
  unfold ckE at c
  split at c
  · rename_i fn es ks pos
    obtain ⟨c, c3⟩ := bnd c
    obtain ⟨c1, c2⟩ := bnd c
    cases ks with
    | cons _ _ => cases c2
    | nil =>
      split at c1
      · rename_i x p
        split at c3
        · rename_i v t
          obtain ⟨c3, c6⟩ := bnd c3
          obtain ⟨c4, c5⟩ := bnd c3
          cases t with
          | Name y q =>
            obtain ⟨c5, c7⟩ := bnd c5
            obtain ⟨T, hb, hv, hn⟩ := isi_ty b c7
            obtain ⟨rfl, g1, g2, g3⟩ := bltB_ok k c1
            obtain ⟨rfl, g4, g5, g6⟩ := bltB_ok k c5
            have nv := notb c6
            obtain ⟨st1, st2⟩ := stars1 (e := v) (es := [.Name (isiN b) q]) (env := X.env) (pos := pos) (by rw [List.all_cons, nv]; rfl)
            exact PE.imp (pe_callB (cr_isi k.hK hb) g1 g2 boot_isi (pa_cons (ih.mE N X sc so k.down a v c4) (pa_cons (pe_bltn (v := .ty T) g4 g5 hv rfl hn g6) pa_nil) st1) (by decide) g3 st1 st2) isi_imp
          | _ => cases c5
        · cases c3
      · cases c1
  · cases c
theorem s_blt (ih : Main P g M n) (k : XOk P g M N X sc so (n + 1)) {b : Bi} {a : I} {e : Expr} (c : ckE M N sc (.blt b a) e = true) : PE X e (tE P g (n + 1) (.blt b a)) := by
  unfold ckE at c
  split at c
  · rename_i fn es ks pos
    obtain ⟨c, c3⟩ := bnd c
    obtain ⟨c1, c2⟩ := bnd c
    cases ks with
    | cons _ _ => cases c2
    | nil =>
      split at c1
      · rename_i x p
        obtain ⟨c1, c4⟩ := bnd c1
        cases b with
        | len => exact s_bltF ih k (id := "len") (cr_len k.hK) (by decide) (by decide) c1 c3
        | int => exact s_bltT ih k (id := "int") cr_int (by decide) (by decide) c1 c3
        | abs => exact s_bltF ih k (id := "abs") cr_abs (by decide) (by decide) c1 c3
        | max2 => exact s_bltF ih k (id := "max") (cr_max2 k.calm) (by decide) (by decide) c1 c3
        | min2 => exact s_bltF ih k (id := "min") (cr_min2 k.calm) (by decide) (by decide) c1 c3
        | sum => exact s_bltF ih k (id := "sum") (cr_sumE k.calm) (by decide) (by decide) c1 c3
        | any => exact s_bltF ih k (id := "any") (cr_anyE k.calm) (by decide) (by decide) c1 c3
        | all => exact s_bltF ih k (id := "all") (cr_allE k.calm) (by decide) (by decide) c1 c3
        | tuple => exact s_bltT ih k (id := "tuple") (cr_tupleE k.hK) (by decide) (by decide) c1 c3
        | list => exact s_bltT ih k (id := "list") (cr_listE k.hK) (by decide) (by decide) c1 c3
        | _ => cases c4
      · cases c1
  · cases c
/-! methods of lists -/
theorem base_ok {o : Expr} {name : Str} {env : Env} (h : isCall o = false) : attributeBase o name env (eval o env) = eval o env := by
  cases o <;> first | rfl | cases h
theorem sim_at {ρ : List Addr} {h : Hh} {H : Hp} (s : Sim g ρ h H) {a : Nat} {p : Addr} (e : ρ[a]? = some p) : ∃ ds vs, h[a]? = some ds ∧ H p = some (.lst vs) ∧ Reps g (ρ.take a) H ds vs := by
  have hl : a < h.length := by rw [← s.len]; exact (List.getElem?_eq_some_iff.mp e).1
  obtain ⟨q, vs, h1, h2, h3⟩ := s.at_ a h[a] (by simp [hl])
  rw [e] at h1
  cases h1
  exact ⟨_, vs, by simp [hl], h2, h3⟩
theorem ty_lst {K : PySem.W.Frag} {H : Hp} {p : Addr} {vs : List V} (e : H p = some (.lst vs)) : tyV K "list" (.ref p) H := .inl ⟨rfl, vs, SqL.of e⟩
theorem line_lt {n : Nat} (h : Nat.blt n line = true) : n < sizeLine := by
  have : n < line := Nat.le_of_ble_eq_true h
  rw [sizeLine_eq]
  exact this
theorem app_imp {o v : I} (hK : X.K = g.K) {σ : L2.St} {H : Hp} {Q : VK} (hr : tE P g (n + 1) (.app o v) σ H Q) : tBM X.K "list" rAppend (tE P g n o) (tCons (tE P g n v) tNil) σ H Q := by
  obtain ⟨ρ, h, sg, sim, er, hr⟩ := hr
  refine ⟨ρ, h, sg, sim, er, Run.on (show Run g ρ H (ke Q) ((ev P n o sg h).on fun x h1 => (ev P n v sg h1).on fun y h2 => match x with
      | .ptr a => match h2[a]? with
        | some ds => match Nat.blt ds.length line && !isPtr y with
          | true => .ok .non (h2.set a (ds ++ [y]))
          | false => .no
        | none => .no
      | _ => .no) from hr) fun d h1 ρ1 H1 x m1 s1 r1 hr1 => ?_⟩
  have hr2 : Run g ρ1 H1 (ke fun y H2 => rAppend x [y] H2 Q) (ev P n v sg h1) := hr1.on fun e h2 ρ2 H2 y m2 s2 r2 hr2 => by
    cases d with
    | ptr a =>
      dsimp only at hr2
      cases e2 : h2[a]? with
      | none => rw [e2] at hr2; exact (show False from hr2).elim
      | some ds =>
        rw [e2] at hr2
        dsimp only at hr2
        cases e3 : (Nat.blt ds.length line && !isPtr e) with
        | false => rw [e3] at hr2; exact (show False from hr2).elim
        | true =>
          rw [e3] at hr2
          obtain ⟨z1, z2⟩ := bnd e3
          obtain ⟨p, rfl, hp⟩ := r1.ptr'
          obtain ⟨ds', vs, h3, h4, h5⟩ := sim_at s2 (m2.2 _ _ hp)
          rw [e2] at h3
          cases h3
          have rp := h5.append (.cons (.pure (r2.toP (notb z2))) .nil)
          obtain ⟨s3, m3⟩ := s2.write (m2.2 _ _ hp) h4 rp
          exact ⟨p, vs, y, rfl, rfl, h4, by rw [← h5.length]; exact line_lt z1, hr2 ρ2 _ .non m3 s3 (.pure .non)⟩
    | _ => exact (show False from hr2).elim
  cases d with
  | ptr a =>
    obtain ⟨p, rfl, hp⟩ := r1.ptr'
    obtain ⟨ds, vs, h3, h4, h5⟩ := sim_at s1 hp
    exact ⟨ty_lst h4, ρ1, h1, sg, s1, er.mono m1, hr2⟩
  | _ =>
    exfalso
    cases q : ev P n v sg h1 with
    | ok e h2 => rw [q] at hr1; exact (show False from hr1)
    | _ => rw [q] at hr1; exact (show False from hr1)
theorem ext_imp {o v : I} (hK : X.K = g.K) {σ : L2.St} {H : Hp} {Q : VK} (hr : tE P g (n + 1) (.ext o v) σ H Q) : tBM X.K "list" rExtend (tE P g n o) (tCons (tE P g n v) tNil) σ H Q := by
  obtain ⟨ρ, h, sg, sim, er, hr⟩ := hr
  refine ⟨ρ, h, sg, sim, er, Run.on (show Run g ρ H (ke Q) ((ev P n o sg h).on fun x h1 => (ev P n v sg h1).on fun y h2 => match x, y with
      | .ptr a, .ptr b => match h2[a]?, h2[b]? with
        | some ds, some es => match es.any isPtr with
          | true => .no
          | false => match catO ds es with
            | some fs => .ok .non (h2.set a fs)
            | none => .no
        | _, _ => .no
      | _, _ => .no) from hr) fun d h1 ρ1 H1 x m1 s1 r1 hr1 => ?_⟩
  have hr2 : Run g ρ1 H1 (ke fun y H2 => rExtend x [y] H2 Q) (ev P n v sg h1) := hr1.on fun e h2 ρ2 H2 y m2 s2 r2 hr2 => by
    cases d with
    | ptr a =>
      cases e with
      | ptr b =>
        dsimp only at hr2
        cases e2 : h2[a]? with
        | none => rw [e2] at hr2; exact (show False from hr2).elim
        | some ds =>
          cases e4 : h2[b]? with
          | none => rw [e2, e4] at hr2; exact (show False from hr2).elim
          | some es =>
            rw [e2, e4] at hr2
            dsimp only at hr2
            cases e3 : es.any isPtr with
            | true => rw [e3] at hr2; exact (show False from hr2).elim
            | false =>
              rw [e3] at hr2
              dsimp only at hr2
              cases e5 : catO ds es with
              | none => rw [e5] at hr2; exact (show False from hr2).elim
              | some fs =>
                rw [e5] at hr2
                obtain ⟨p, rfl, hp⟩ := r1.ptr'
                obtain ⟨q, rfl, hq⟩ := r2.ptr'
                obtain ⟨ds', vs, h3, h4, h5⟩ := sim_at s2 (m2.2 _ _ hp)
                obtain ⟨es', ws, h6, h7, h8⟩ := sim_at s2 hq
                rw [e2] at h3
                cases h3
                rw [e4] at h6
                cases h6
                have rp := h5.append (h8.toP e3).reps
                have e5' : (match Nat.ble (ds.length + es.length) line with
                  | true => some (ds ++ es)
                  | false => none) = some fs := e5
                cases e6 : Nat.ble (ds.length + es.length) line with
                | false => rw [e6] at e5'; cases e5'
                | true =>
                  rw [e6] at e5'
                  cases e5'
                  obtain ⟨s3, m3⟩ := s2.write (m2.2 _ _ hp) h4 rp
                  have hl := line_le e6
                  rw [h5.length, h8.length] at hl
                  exact ⟨p, q, vs, ws, rfl, rfl, h4, h7, hl, hr2 ρ2 _ .non m3 s3 (.pure .non)⟩
      | _ => exact (show False from hr2).elim
    | _ => cases e <;> exact (show False from hr2).elim
  cases d with
  | ptr a =>
    obtain ⟨p, rfl, hp⟩ := r1.ptr'
    obtain ⟨ds, vs, h3, h4, h5⟩ := sim_at s1 hp
    exact ⟨ty_lst h4, ρ1, h1, sg, s1, er.mono m1, hr2⟩
  | _ =>
    exfalso
    cases q : ev P n v sg h1 with
    | ok e h2 => rw [q] at hr1; cases e <;> exact (show False from hr1)
    | _ => rw [q] at hr1; exact (show False from hr1)
theorem pop_imp {o : I} (hK : X.K = g.K) {σ : L2.St} {H : Hp} {Q : VK} (hr : tE P g (n + 1) (.pop o) σ H Q) : tBM0 X.K "list" rPop (tE P g n o) σ H Q := by
  obtain ⟨ρ, h, sg, sim, er, hr⟩ := hr
  refine ⟨ρ, h, sg, sim, er, Run.on (show Run g ρ H (ke Q) ((ev P n o sg h).on fun x h1 => match x with
      | .ptr a => match h1[a]? with
        | some ds => match ds.getLast? with
          | some d => .ok d (h1.set a ds.dropLast)
          | none => .no
        | none => .no
      | _ => .no) from hr) fun d h1 ρ1 H1 x m1 s1 r1 hr1 => ?_⟩
  cases d with
  | ptr a =>
    dsimp only at hr1
    obtain ⟨p, rfl, hp⟩ := r1.ptr'
    obtain ⟨ds, vs, h3, h4, h5⟩ := sim_at s1 hp
    rw [h3] at hr1
    dsimp only at hr1
    cases e5 : ds.getLast? with
    | none => rw [e5] at hr1; exact (show False from hr1).elim
    | some u =>
      rw [e5] at hr1
      rw [List.getLast?_eq_getElem?] at e5
      obtain ⟨y, e6, r6⟩ := h5.get e5
      obtain ⟨s3, m3⟩ := s1.write hp h4 h5.dropLast
      refine ⟨ty_lst h4, p, vs, y, rfl, rfl, h4, by rw [← h5.length]; exact e6, hr1 ρ1 _ y m3 s3 ?_⟩
      exact (r6.mono0 m3.h (take_pf ρ1 a))
  | _ => exact (show False from hr1).elim
theorem s_app (ih : Main P g M n) (k : XOk P g M N X sc so (n + 1)) {o v : I} {e : Expr} (c : ckE M N sc (.app o v) e = true) : PE X e (tE P g (n + 1) (.app o v)) := by
  unfold ckE at c
  split at c
  · rename_i fn es ks pos
    split at c
    · rename_i x m ap y
      obtain ⟨c, c7⟩ := bnd c
      obtain ⟨c, c6⟩ := bnd c
      obtain ⟨c, c5⟩ := bnd c
      obtain ⟨c, c4⟩ := bnd c
      obtain ⟨c, c3⟩ := bnd c
      obtain ⟨c1, c2⟩ := bnd c
      obtain rfl := of_decide_eq_true c1
      cases ks with
      | cons _ _ => cases c4
      | nil =>
        have ny := notb c5
        obtain ⟨st1, st2⟩ := stars1 (e := y) (es := []) (env := X.env) (pos := pos) (by rw [List.all_cons, ny]; rfl)
        refine PE.imp (pe_bm F.plainAttrs_list F.slot_list_append F.type_list_append mt_append (ih.mE N X sc so k.down o x c2) (pa_cons (ih.mE N X sc so k.down v y c3) pa_nil st1) (base_ok (notb c7)) (by rw [st1]; rfl) (by simpa using c6) st1 st2) fun σ H Q hr => ?_
        exact app_imp k.hK hr
    · cases c
  · cases c
theorem s_ext (ih : Main P g M n) (k : XOk P g M N X sc so (n + 1)) {o v : I} {e : Expr} (c : ckE M N sc (.ext o v) e = true) : PE X e (tE P g (n + 1) (.ext o v)) := by
  unfold ckE at c
  split at c
  · rename_i fn es ks pos
    split at c
    · rename_i x m ap y
      obtain ⟨c, c7⟩ := bnd c
      obtain ⟨c, c6⟩ := bnd c
      obtain ⟨c, c5⟩ := bnd c
      obtain ⟨c, c4⟩ := bnd c
      obtain ⟨c, c3⟩ := bnd c
      obtain ⟨c1, c2⟩ := bnd c
      obtain rfl := of_decide_eq_true c1
      cases ks with
      | cons _ _ => cases c4
      | nil =>
        have ny := notb c5
        obtain ⟨st1, st2⟩ := stars1 (e := y) (es := []) (env := X.env) (pos := pos) (by rw [List.all_cons, ny]; rfl)
        refine PE.imp (pe_bm F.plainAttrs_list F.slot_list_extend F.type_list_extend mt_extend (ih.mE N X sc so k.down o x c2) (pa_cons (ih.mE N X sc so k.down v y c3) pa_nil st1) (base_ok (notb c7)) (by rw [st1]; rfl) (by simpa using c6) st1 st2) fun σ H Q hr => ?_
        exact ext_imp k.hK hr
    · cases c
  · cases c
theorem s_pop (ih : Main P g M n) (k : XOk P g M N X sc so (n + 1)) {o : I} {e : Expr} (c : ckE M N sc (.pop o) e = true) : PE X e (tE P g (n + 1) (.pop o)) := by
  unfold ckE at c
  split at c
  · rename_i fn es ks pos
    split at c
    · rename_i x m ap
      obtain ⟨c, c7⟩ := bnd c
      obtain ⟨c, c6⟩ := bnd c
      obtain ⟨c, c4⟩ := bnd c
      obtain ⟨c1, c2⟩ := bnd c
      obtain rfl := of_decide_eq_true c1
      cases ks with
      | cons _ _ => cases c4
      | nil =>
        exact PE.imp (pe_bm0 F.plainAttrs_list F.slot_list_pop F.type_list_pop mt_pop (ih.mE N X sc so k.down o x c2) (base_ok (notb c7)) (by simpa using c6)) fun σ H Q hr => pop_imp k.hK hr
    · cases c
  · cases c
end
end Ev
-- EvN
/-! targets, iterables, comprehensions -/
namespace Ev
open PySem PySem.Spec PyProof.Rows L2
/-- the reading of a target of names -/
def gTs : I → TGs
  | .gnil => gNil
  | .gcons g r => match g with
    | .gv i => gCons (gName i) (gTs r)
    | _ => fun _ _ _ _ => False
  | _ => fun _ _ _ _ => False
def cntG : I → Nat
  | .gcons _ r => cntG r + 1
  | _ => 0
def gV (K : PySem.W.Frag) : I → TG
  | .gv i => gName i
  | .gt r => gTup K (cntG r) (gTs r)
  | _ => fun _ _ _ _ => False
section
variable {P : Pg} {g : G} {M : Nm} {N : List Str} {X : Cx} {sc so : Scope} {n : Nat}
theorem locC_ok (k : XOk P g M N X sc so n) {x : Str} (h : locC so x = true) : Loc X.env.scope x ∧ (X.fn x = true ∨ X.env.scope.names.lookup x = some .local) := by
  unfold locC at h
  rw [k.hsc]
  split at h
  · have := k.loc x (by assumption)
    exact ⟨.inl this, .inr this⟩
  · obtain ⟨h1, h2⟩ := k.cel x (by assumption)
    exact ⟨.inr h1, .inl h2⟩
  · cases h
theorem pg_gv (k : XOk P g M N X sc so n) {i : Nat} {e : Expr} (c : ckG M N so (.gv i) e = true) : PG X e (gName i) := by
  unfold ckG at c
  split at c
  · rename_i x pos
    obtain ⟨c1, c2⟩ := bnd c
    obtain ⟨l1, l2⟩ := locC_ok k c2
    exact pg_name (by rw [k.hN]; exact k.nd) (by rw [k.hN]; exact of_decide_eq_true c1) l1 l2
  · cases c
theorem notStarG {e : Expr} {es : List Expr} {env : Env} (h : isStar e = false) : assignEach (e :: es) env = (false, assign e env) :: assignEach es env := by
  cases e <;> first | rfl | cases h
theorem pgs_gTs (k : XOk P g M N X sc so n) (r : I) : ∀ (es : List Expr), ckGs M N so r es = true → PGs X es (gTs r) ∧ (assignEach es X.env).length = cntG r ∧ (assignEach es X.env).findIdx? (·.1) = none := by
  induction r with
  | gnil =>
    intro es c
    cases es with
    | nil => exact ⟨pgs_nil, rfl, rfl⟩
    | cons _ _ => cases c
  | gcons g1 r _ ih =>
    intro es c
    cases es with
    | nil => cases c
    | cons e es =>
      obtain ⟨c, c3⟩ := bnd (show (ckG M N so g1 e && ckGs M N so r es && !isStar e) = true from c)
      obtain ⟨c1, c2⟩ := bnd c
      have hs := notStarG (es := es) (env := X.env) (notb c3)
      obtain ⟨q1, q2, q3⟩ := ih es c2
      refine ⟨?_, by rw [hs]; exact congrArg (· + 1) q2, ?_⟩
      · cases g1 with
        | gv i => exact pgs_cons (pg_gv k c1) q1 (by rw [hs]; rfl)
        | _ => exact ⟨fun _ _ _ _ _ _ _ _ _ h => h.elim⟩
      · rw [hs, List.findIdx?_cons, q3]
        rfl
  | _ => intro es c; cases c
theorem pg_gV (k : XOk P g M N X sc so n) {tg : I} {e : Expr} (c : ckG M N so tg e = true) : PG X e (gV X.K tg) := by
  cases tg with
  | gv i => exact pg_gv k c
  | gt r =>
    unfold ckG at c
    split at c
    · rename_i es kk pos
      obtain ⟨q1, q2, q3⟩ := pgs_gTs k r es c
      exact pg_tup k.calm q1 q2 q3
    · cases c
  | _ => exact ⟨fun _ _ _ _ _ _ _ _ _ h => (show False from h).elim⟩
/-! what a target of names does -/
theorem wipe_set {σ : L2.St} {i : Nat} {v : Option V} : ∀ {vs : List Nat}, i ∈ vs → wipe (σ.set i v) vs = wipe σ vs
  | j :: vs, h => by
    unfold wipe
    by_cases hj : i = j
    · subst hj
      by_cases hm : i ∈ vs
      · rw [wipe_set hm]
      · have : ∀ (us : List Nat) (τ : L2.St), (wipe (τ.set i v) us).set i none = (wipe τ us).set i none := fun us => by
          induction us with
          | nil => intro τ; unfold wipe; rw [List.set_set]
          | cons u us ih2 =>
            intro τ
            unfold wipe
            by_cases hu : u = i
            · subst hu
              rw [List.set_set, List.set_set]
              exact ih2 τ
            · rw [List.set_comm _ _ hu, ih2 τ, List.set_comm _ _ (Ne.symm hu)]
        exact this vs σ
    · have hm : i ∈ vs := by
        rcases List.mem_cons.mp h with e | e
        · exact absurd e hj
        · exact e
      rw [wipe_set hm]
theorem gTs_ok {ρ : List Addr} {H : Hp} {h : Hh} (own : List Nat) : ∀ (r : I) (ds : List D) (vs : List V) (sg : Sg) (σ : L2.St) (sg' : Sg) (h' : Hh) (Q : L2.St → Hp → Prop), EnvR g ρ H sg σ → Reps g ρ H ds vs → asgs r ds sg h = .nx sg' h' →
    (h' = h → ∀ σ', EnvR g ρ H sg' σ' → (gOwn own r = true → wipe σ' own = wipe σ own) → Q σ' H) → gTs r vs σ H Q ∧ vs.length = cntG r := by
  intro r
  induction r with
  | gnil =>
    intro ds vs sg σ sg' h' Q er rr e q
    cases ds with
    | cons _ _ => cases e
    | nil =>
      cases rr
      cases e
      exact ⟨⟨rfl, q rfl σ er fun _ => rfl⟩, rfl⟩
  | gcons g1 r _ ih =>
    intro ds vs sg σ sg' h' Q er rr e q
    cases g1 with
    | gv i =>
      cases ds with
      | nil => cases e
      | cons d ds =>
        cases rr with
        | cons r1 rr =>
          rename_i v vs
          have e : asgs r ds (sg.set i d) h = .nx sg' h' := e
          have z := ih ds vs (sg.set i d) (σ.set i (some v)) sg' h' Q (er.set r1) rr e fun eh σ' er' w => q eh σ' er' fun ow => by
            obtain ⟨o1, o2⟩ := bnd (show (gOwn own (.gv i) && gOwn own r) = true from ow)
            rw [w o2, wipe_set (of_decide_eq_true o1)]
          exact ⟨⟨v, vs, rfl, z.1⟩, congrArg (· + 1) z.2⟩
    | _ => cases e
  | _ => intro ds vs sg σ sg' h' Q er rr e q; cases e
theorem gV_ok {ρ : List Addr} {H : Hp} {h : Hh} (own : List Nat) {E : I → Sg → Hh → R} {tg : I} {d : D} {v : V} {sg : Sg} {σ : L2.St} {sg' : Sg} {h' : Hh} {Q : L2.St → Hp → Prop} (nx : ∀ o i, tg ≠ .gx o i) (er : EnvR g ρ H sg σ) (rr : Rep g ρ H d v) (e : asg E tg d sg h = .nx sg' h')
    (q : h' = h → ∀ σ', EnvR g ρ H sg' σ' → (gOwn own tg = true → wipe σ' own = wipe σ own) → Q σ' H) : gV g.K tg v σ H Q := by
  cases tg with
  | gv i =>
    cases e
    exact q rfl _ (er.set rr) fun ow => wipe_set (of_decide_eq_true ow)
  | gt r =>
    have e : (match tupOf d with
      | some ds => asgs r ds sg h
      | none => .no) = .nx sg' h' := e
    cases et : tupOf d with
    | none => rw [et] at e; cases e
    | some ds =>
      rw [et] at e
      have : ∃ (a : Addr) (vs : List V), v = .ref a ∧ SqT g.K H a vs ∧ Reps g ρ H ds vs := by
        cases rr with
        | pure rr =>
          cases rr with
          | tup q rr => cases et; exact ⟨_, _, rfl, q, rr.reps⟩
          | _ => cases et
        | ptr z => cases et
        | mtp q rr => cases et; exact ⟨_, _, rfl, q, rr⟩
      obtain ⟨a, vs, rfl, sq, rs⟩ := this
      obtain ⟨z1, z2⟩ := gTs_ok own r ds vs sg σ sg' h' Q er rs e q
      exact ⟨a, vs, rfl, sq, z2, z1⟩
  | gx o i => exact absurd rfl (nx o i)
  | _ => cases e
end
end Ev
-- EvO
/-! iterables -/
namespace Ev
open PySem PySem.Spec PyProof.Rows L2
section
variable {P : Pg} {g : G} {M : Nm} {N : List Str} {X : Cx} {sc so : Scope} {n : Nat}
theorem isTup_ok {t : Expr} (h : isTup t = true) : ∃ es k p, t = .Tuple es k p := by
  cases t <;> first | exact ⟨_, _, _, rfl⟩ | cases h
theorem iS_imp {a : I} (hK : X.K = g.K) : ∀ σ H R, tI P g (n + 1) (.iS a) σ H R → iSq X.K (tE P g n a) σ H R := fun σ H R hr => by
  obtain ⟨ρ, h, sg, sim, er, hr⟩ := hr
  refine ⟨ρ, h, sg, sim, er, Run.on (show Run g ρ H _ ((ev P n a sg h).on fun x h1 => match itemsOf h1 x with
      | some _ => .osr (.sq x) h1
      | none => .no) from hr) fun d h1 ρ1 H1 v m1 s1 r1 hr1 => ?_⟩
  cases e : itemsOf h1 d with
  | none => rw [e] at hr1; exact (show False from hr1).elim
  | some ds =>
    rw [e] at hr1
    obtain ⟨x, vs, rfl, q, rr⟩ := items_kind s1 r1 e
    have z := hr1 ρ1 H1 (Mono.refl _ _ _) s1 _ (src_sq r1)
    rw [← hK] at q z
    refine ⟨x, rfl, ?_⟩
    cases b : isL d with
    | true => rw [b] at q z; exact .inl ⟨⟨vs, q⟩, z⟩
    | false => rw [b] at q z; exact .inr ⟨⟨vs, q⟩, z⟩
theorem iE_imp {a : I} (hK : X.K = g.K) : ∀ σ H R, tI P g (n + 1) (.iE a) σ H R → iEnK X.K (tE P g n a) σ H R := fun σ H R hr => by
  obtain ⟨ρ, h, sg, sim, er, hr⟩ := hr
  refine ⟨ρ, h, sg, sim, er, Run.on (show Run g ρ H _ ((ev P n a sg h).on fun x h1 => match itemsOf h1 x with
      | some _ => .osr (.en x) h1
      | none => .no) from hr) fun d h1 ρ1 H1 v m1 s1 r1 hr1 => ?_⟩
  cases e : itemsOf h1 d with
  | none => rw [e] at hr1; exact (show False from hr1).elim
  | some ds =>
    rw [e] at hr1
    obtain ⟨x, vs, rfl, q, rr⟩ := items_kind s1 r1 e
    have z := hr1 ρ1 H1 (Mono.refl _ _ _) s1 _ (src_en r1)
    rw [← hK] at q z
    exact ⟨isL d, x, vs, rfl, q, z⟩
theorem iZ_imp {a b : I} (hK : X.K = g.K) : ∀ σ H R, tI P g (n + 1) (.iZ a b) σ H R → iZpK X.K (tE P g n a) (tE P g n b) σ H R := fun σ H R hr => by
  obtain ⟨ρ, h, sg, sim, er, hr⟩ := hr
  refine ⟨ρ, h, sg, sim, er, Run.on (show Run g ρ H _ ((ev P n a sg h).on fun x h1 => (ev P n b sg h1).on fun y h2 => match itemsOf h2 x, itemsOf h2 y with
      | some _, some _ => .osr (.zp x y) h2
      | _, _ => .no) from hr) fun d h1 ρ1 H1 v m1 s1 r1 hr1 => ?_⟩
  refine ⟨ρ1, h1, sg, s1, er.mono m1, hr1.on fun d2 h2 ρ2 H2 v2 m2 s2 r2 hr2 => ?_⟩
  cases e : itemsOf h2 d with
  | none => rw [e] at hr2; exact (show False from hr2).elim
  | some ds =>
    cases e2 : itemsOf h2 d2 with
    | none => rw [e, e2] at hr2; exact (show False from hr2).elim
    | some ds2 =>
      rw [e, e2] at hr2
      obtain ⟨x, vs, rfl, q, rr⟩ := items_kind s2 (r1.mono m2) e
      obtain ⟨y, ws, rfl, q2, rr2⟩ := items_kind s2 r2 e2
      have z := hr2 ρ2 H2 (Mono.refl _ _ _) s2 _ (src_zp (r1.mono m2) r2)
      rw [← hK] at q q2 z
      exact ⟨isL d, isL d2, x, y, vs, ws, rfl, rfl, q, q2, z⟩
theorem blt60 {j : Int} (h : Nat.blt j.natAbs (2 ^ 60) = true) : -(2 ^ 62) ≤ j ∧ j < 2 ^ 62 := by
  have : j.natAbs < 2 ^ 60 := Nat.le_of_ble_eq_true h
  omega
def evR (ds : List D) (h1 : Hh) : R := match ds with
      | [.int j] => match Nat.blt j.natAbs (2 ^ 60) with
        | true => .osr (.rg 0 1 j.toNat) h1
        | false => .no
      | [.int i, .int j] => match Nat.blt i.natAbs (2 ^ 60) && Nat.blt j.natAbs (2 ^ 60) with
        | true => .osr (.rg i 1 (j - i).toNat) h1
        | false => .no
      | [.int i, .int j, .int c] => match Nat.blt i.natAbs (2 ^ 60) && Nat.blt j.natAbs (2 ^ 60) && decide (c = -1) with
        | true => .osr (.rg i (-1) (i - j).toNat) h1
        | false => .no
      | _ => .no
inductive RgK : List D → Src → Prop
  | one (j : Int) : -(2 ^ 62) ≤ j ∧ j < 2 ^ 62 → RgK [.int j] (.rg 0 1 j.toNat)
  | two (i j : Int) : -(2 ^ 62) ≤ i ∧ i < 2 ^ 62 → -(2 ^ 62) ≤ j ∧ j < 2 ^ 62 → RgK [.int i, .int j] (.rg i 1 (j - i).toNat)
  | three (i j : Int) : -(2 ^ 62) ≤ i ∧ i < 2 ^ 62 → -(2 ^ 62) ≤ j ∧ j < 2 ^ 62 → RgK [.int i, .int j, .int (-1)] (.rg i (-1) (i - j).toNat)
theorem evR_ok {ds : List D} {h1 : Hh} {ρ : List Addr} {H : Hp} {k : Kt} (hr : Run g ρ H k (evR ds h1)) : ∃ s, RgK ds s ∧ evR ds h1 = .osr s h1 := by
  unfold evR at hr ⊢
  split at hr
  · rename_i j
    cases e : Nat.blt j.natAbs (2 ^ 60) with
    | false => rw [e] at hr; exact (show False from hr).elim
    | true => exact ⟨_, .one j (blt60 e), by simp only [e]⟩
  · rename_i i j
    cases e : (Nat.blt i.natAbs (2 ^ 60) && Nat.blt j.natAbs (2 ^ 60)) with
    | false => rw [e] at hr; exact (show False from hr).elim
    | true =>
      obtain ⟨e1, e2⟩ := bnd e
      exact ⟨_, .two i j (blt60 e1) (blt60 e2), by simp only [e]⟩
  · rename_i i j c
    cases e : (Nat.blt i.natAbs (2 ^ 60) && Nat.blt j.natAbs (2 ^ 60) && decide (c = -1)) with
    | false => rw [e] at hr; exact (show False from hr).elim
    | true =>
      obtain ⟨e0, e3⟩ := bnd e
      obtain ⟨e1, e2⟩ := bnd e0
      obtain rfl := of_decide_eq_true e3
      exact ⟨_, .three i j (blt60 e1) (blt60 e2), by simp only [e]⟩
  · exact (show False from hr).elim
theorem ons_ok {r : R} {f : List D → Hh → R} {d : List D} {h : Hh} (e : r.ons f = .oks d h) : ∃ d1 h1, r = .oks d1 h1 ∧ f d1 h1 = .oks d h := by
  cases r with
  | oks d1 h1 => exact ⟨d1, h1, rfl, e⟩
  | _ => cases e
theorem on_oks {r : R} {f : D → Hh → R} {d : List D} {h : Hh} (e : r.on f = .oks d h) : ∃ d1 h1, r = .ok d1 h1 ∧ f d1 h1 = .oks d h := by
  cases r with
  | ok d1 h1 => exact ⟨d1, h1, rfl, e⟩
  | _ => cases e
theorem ckA_len : ∀ (n : Nat) (a : I) (es : List Expr) (sg : Sg) (h : Hh) (ds : List D) (h' : Hh), ckA M N sc a es = true → (es.all fun e => !isStar e) = true → ev P n a sg h = .oks ds h' → ds.length = es.length
  | 0, _, _, _, _, _, _, _, _, e => by cases e
  | n + 1, a, es, sg, h, ds, h', c, ns, e => by
    unfold ckA at c
    split at c
    · cases es with
      | cons _ _ => cases c
      | nil => cases e; rfl
    · split at c
      · rename_i a1 r1 _ e1 es
        obtain ⟨c, c3⟩ := bnd c
        obtain ⟨c1, c2⟩ := bnd c
        rw [List.all_cons] at ns
        obtain ⟨n1, n2⟩ := bnd ns
        obtain ⟨d1, h1, _, e⟩ := on_oks (show ((ev P n a1 sg h).on fun d h1 => (ev P n r1 sg h1).ons fun ds h2 => .oks (d :: ds) h2) = .oks ds h' from e)
        obtain ⟨d2, hh2, e2, e⟩ := ons_ok e
        cases e
        exact congrArg (· + 1) (ckA_len n r1 es sg h1 d2 _ c2 n2 e2)
      · cases c
    · split at c
      · obtain ⟨c1, c2⟩ := bnd c
        rw [List.all_cons] at ns
        obtain ⟨n1, n2⟩ := bnd ns
        split at c1
        · cases n1
        · cases c1
      · cases c
    · cases c
theorem iR_imp {a : I} {es : List Expr} (c : ckA M N sc a es = true) (ns : (es.all fun e => !isStar e) = true) : ∀ σ H R, tI P g (n + 1) (.iR a) σ H R → tA P g n a σ H fun vs H1 => ∃ (ρ1 : List Addr) (ds : List D) (s : Src), RgK ds s ∧ Reps g ρ1 H1 ds vs ∧ (∀ J, SrcIt g s J ρ1 H1 → R J H1) ∧ ds.length = es.length := fun σ H R hr => by
  obtain ⟨ρ, h, sg, sim, er, hr⟩ := hr
  have hr : Run g ρ H _ ((ev P n a sg h).ons fun ds h1 => evR ds h1) := hr
  refine ⟨ρ, h, sg, sim, er, ?_⟩
  cases e : ev P n a sg h with
  | oks ds h1 =>
    rw [e] at hr
    intro ρ1 H1 vs m1 s1 r1
    have hr1 := Run.base m1 (show Run g ρ H _ (evR ds h1) from hr)
    obtain ⟨s, k1, k2⟩ := evR_ok hr1
    rw [k2] at hr1
    exact ⟨ρ1, ds, s, k1, r1, hr1 ρ1 H1 (Mono.refl _ _ _) s1, ckA_len n a es sg h ds h1 c ns e⟩
  | _ => rw [e] at hr; exact (show False from hr).elim
theorem reps_i1 {ρ : List Addr} {H : Hp} {i : Int} {vs : List V} (r : Reps g ρ H [.int i] vs) : vs = [.int i] := by
  obtain ⟨v, rfl, r1⟩ := r.one
  rw [r1.int]
theorem reps_i2 {ρ : List Addr} {H : Hp} {i j : Int} {vs : List V} (r : Reps g ρ H [.int i, .int j] vs) : vs = [.int i, .int j] := by
  obtain ⟨v, w, rfl, r1, r2⟩ := r.two
  rw [r1.int, r2.int]
theorem reps_i3 {ρ : List Addr} {H : Hp} {i j l : Int} {vs : List V} (r : Reps g ρ H [.int i, .int j, .int l] vs) : vs = [.int i, .int j, .int l] := by
  cases r with
  | cons r1 r =>
    rw [r1.int, reps_i2 r]
theorem tA_mono {a : I} {σ : L2.St} {H : Hp} {Q Q' : List V → Hp → Prop} (h : tA P g n a σ H Q) (i : ∀ vs H1, Q vs H1 → Q' vs H1) : tA P g n a σ H Q' := by
  obtain ⟨ρ, hh, sg, sim, er, hr⟩ := h
  refine ⟨ρ, hh, sg, sim, er, ?_⟩
  cases e : ev P n a sg hh with
  | oks ds h1 =>
    rw [e] at hr
    exact fun ρ1 H1 vs m1 s1 r1 => i vs H1 (hr ρ1 H1 vs m1 s1 r1)
  | _ => rw [e] at hr; exact hr
theorem m_I (ih : Main P g M n) (k : XOk P g M N X sc so (n + 1)) (i : I) (e t : Expr) (c : ckI M N sc i e = true) (tg : tgOk i t = true) : PI X t e (tI P g (n + 1) i) := by
  unfold ckI at c
  split at c
  · rename_i a
    split at c
    · rename_i fn es ks pos
      obtain ⟨c, c6⟩ := bnd c
      obtain ⟨c, c5⟩ := bnd c
      obtain ⟨c, c4⟩ := bnd c
      obtain ⟨c, c3⟩ := bnd c
      obtain ⟨c1, c2⟩ := bnd c
      cases ks with
      | cons _ _ => cases c3
      | nil =>
        cases fn with
        | Name x p =>
          obtain ⟨rfl, g1, g2, g3⟩ := bltB_ok k c1
          have hA := ih.mA N X sc so k.down a es c2
          cases es with
          | nil => cases c6
          | cons e1 es =>
            have q1 := stars1 (env := X.env) (pos := pos) c4
            cases es with
            | nil =>
              refine PI.imp (pi_range1 g1 g2 hA q1.1) fun σ H R hr => tA_mono (iR_imp c2 c4 σ H R hr) fun vs H1 ⟨ρ1, ds, s, k1, r1, z, l⟩ => ?_
              cases k1 with
              | one j hj => exact ⟨j, reps_i1 r1, hj.1, hj.2, z _ src_rg1⟩
              | _ => cases l
            | cons e2 es =>
              have c4' : ((e2 :: es).all fun e => !isStar e) = true := by rw [List.all_cons] at c4; exact (bnd c4).2
              have q2 := stars1 (env := X.env) (pos := pos) c4'
              cases es with
              | nil =>
                refine PI.imp (pi_range2 g1 g2 hA (by rw [q1.1, q2.1]; rfl) q2.1) fun σ H R hr => tA_mono (iR_imp c2 c4 σ H R hr) fun vs H1 ⟨ρ1, ds, s, k1, r1, z, l⟩ => ?_
                cases k1 with
                | two i j hi hj => exact ⟨i, j, reps_i2 r1, ⟨hi.1, hi.2, hj.1, hj.2⟩, z _ src_rg1⟩
                | _ => cases l
              | cons e3 es =>
                cases es with
                | nil =>
                  refine PI.imp (pi_range3 g1 g2 hA q1.1 q1.2) fun σ H R hr => tA_mono (iR_imp c2 c4 σ H R hr) fun vs H1 ⟨ρ1, ds, s, k1, r1, z, l⟩ => ?_
                  cases k1 with
                  | three i j hi hj => exact ⟨i, j, -1, _, reps_i3 r1, RgC.neg hi.1 hi.2 hj.1 hj.2, z _ src_rg⟩
                  | _ => cases l
                | cons e4 es =>
                  have := of_decide_eq_true c5
                  simp only [List.length_cons] at this
                  omega
        | _ => cases c1
    · cases c
  · rename_i a
    obtain ⟨es, kk, tp, rfl⟩ := isTup_ok tg
    split at c
    · rename_i fn ls ks pos
      obtain ⟨c, c3⟩ := bnd c
      obtain ⟨c1, c2⟩ := bnd c
      cases ks with
      | cons _ _ => cases c3
      | nil =>
        cases fn with
        | Name x p =>
          obtain ⟨rfl, g1, g2, g3⟩ := bltB_ok k c1
          split at c2
          · obtain ⟨d1, d2⟩ := bnd c2
            exact PI.imp (pi_enK g1 g2 (ih.mE N X sc so k.down _ _ d1) (notb d2)) (iE_imp k.hK)
          · cases c2
        | _ => cases c1
    · cases c
  · rename_i a b
    obtain ⟨es, kk, tp, rfl⟩ := isTup_ok tg
    split at c
    · rename_i fn ls ks pos
      obtain ⟨c, c3⟩ := bnd c
      obtain ⟨c1, c2⟩ := bnd c
      cases ks with
      | cons _ _ => cases c3
      | nil =>
        cases fn with
        | Name x p =>
          obtain ⟨rfl, g1, g2, g3⟩ := bltB_ok k c1
          split at c2
          · obtain ⟨d1, d4⟩ := bnd c2
            obtain ⟨d1, d3⟩ := bnd d1
            obtain ⟨d1, d2⟩ := bnd d1
            exact PI.imp (pi_zpK g1 g2 (ih.mE N X sc so k.down _ _ d1) (ih.mE N X sc so k.down _ _ d2) (notb d3) (notb d4)) (iZ_imp k.hK)
          · cases c2
        | _ => cases c1
    · cases c
  · obtain ⟨c1, c2⟩ := bnd c
    exact PI.imp (pi_sq (ih.mE N X sc so k.down _ _ c1)) (iS_imp k.hK)
  · cases c
end
end Ev
-- EvP
/-! comprehensions -/
namespace Ev
open PySem PySem.Spec PyProof.Rows L2
section
variable {P : Pg} {g : G} {M : Nm} {N : List Str} {X : Cx} {sc so : Scope} {n : Nat}
theorem XOk.blk {scope : Scope} (k : XOk P g M N X sc so n) (hk : scope.kind = .function) (s : Shared) (H : Hp) (C : Addr) (cl : List (Str × Addr)) (fp : List Addr) :
    XOk P g M N (X.blk s H scope (compEnvC scope cl C X.env) fp) (relS scope sc) scope n := by
  have hs : (compEnvC scope cl C X.env).scope = relS scope sc := by rw [← k.hsc]; rfl
  refine ⟨k.hK, k.hN, hs, k.nd, k.calm, k.room, k.mg, fun x e => ?_, fun x e => ⟨?_, ?_⟩, hk, k.pg⟩
  · exact lookup_relS_keep (by decide) e
  · exact lookup_relS_keep (by decide) e
  · show (scope.names.lookup x == some NameKind.cell) = true
    rw [e]
    rfl
theorem loopC_len {s : Src} {f : D → Hh → R} : ∀ (m i : Nat) (acc : List D) (h : Hh) (ds : List D) (h' : Hh), loopC s f m i acc h = .oks ds h' → acc.length ≤ sizeLine := by
  intro m
  induction m with
  | zero => intro i acc h ds h' e; cases e
  | succ m ih =>
    intro i acc h ds h' e
    unfold loopC at e
    cases e1 : srcAt h s i with
    | none => rw [e1] at e; cases e
    | some o =>
      rw [e1] at e
      cases o with
      | none =>
        dsimp only at e
        cases e2 : Nat.ble acc.length line with
        | true => exact line_le e2
        | false => rw [e2] at e; cases e
      | some d =>
        dsimp only at e
        cases e2 : f d h with
        | ok x h1 =>
          rw [e2] at e
          have := ih (i + 1) (x :: acc) h1 ds h' e
          rw [List.length_cons] at this
          omega
        | nx sg h1 =>
          rw [e2] at e
          exact ih (i + 1) acc h1 ds h' e
        | _ => rw [e2] at e; cases e
theorem wipe_len (sg : Sg) : ∀ vs : List Nat, (wipeD sg vs).length = sg.length
  | [] => rfl
  | v :: vs => by unfold wipeD; rw [List.length_set, wipe_len sg vs]
theorem EnvR.wipe {ρ : List Addr} {H : Hp} {sg : Sg} {σ : L2.St} (er : EnvR g ρ H sg σ) : ∀ vs : List Nat, EnvR g ρ H (wipeD sg vs) (L2.wipe σ vs)
  | [] => er
  | v :: vs => by
    have q := EnvR.wipe er vs
    unfold wipeD L2.wipe
    refine ⟨by rw [List.length_set, List.length_set]; exact q.len, fun i d e u => ?_⟩
    by_cases hj : i = v
    · subst hj
      by_cases hl : i < (wipeD sg vs).length
      · rw [List.getElem?_set_self hl] at e
        cases e
        cases u
      · rw [List.getElem?_eq_none (by simpa using hl)] at e
        cases e
    · rw [List.getElem?_set_ne (Ne.symm hj)] at e
      obtain ⟨w, h1, h2⟩ := q.at_ i d e u
      exact ⟨w, by rw [List.getElem?_set_ne (Ne.symm hj)]; exact h1, h2⟩
theorem wipe_set0 {i : Nat} {v : Option V} : ∀ (us : List Nat) (τ : L2.St), (wipe (τ.set i v) us).set i none = (wipe τ us).set i none := fun us => by
  induction us with
  | nil => intro τ; unfold wipe; rw [List.set_set]
  | cons u us ih2 =>
    intro τ
    unfold wipe
    by_cases hu : u = i
    · subst hu
      rw [List.set_set, List.set_set]
      exact ih2 τ
    · rw [List.set_comm _ _ hu, ih2 τ, List.set_comm _ _ (Ne.symm hu)]
theorem wipe_wipe (σ : L2.St) : ∀ vs : List Nat, wipe (wipe σ vs) vs = wipe σ vs
  | [] => rfl
  | v :: vs => by
    show (wipe ((wipe σ vs).set v none) vs).set v none = (wipe σ vs).set v none
    rw [wipe_set0, wipe_wipe σ vs]
/-- a turn of the comprehension -/
def fLc (P : Pg) (n : Nat) (tg ifs e : I) (own : List Nat) (sg : Sg) : D → Hh → R := fun d h2 => match asg (ev P n) tg d (wipeD sg own) h2 with
        | .nx σ2 h3 => (ev P n ifs σ2 h3).onb fun k h4 => match k with
          | true => (ev P n e σ2 h4).on fun x h5 => .ok x h5
          | false => .nx σ2 h4
        | _ => .no
/-- the tests of a clause -/
def tIf (P : Pg) (g : G) (n : Nat) (ifs : I) (fs : List Expr) : TT := match fs with
  | [] => tYes
  | _ => tT P g n ifs
theorem lc_imp {scope : Scope} {tg it ifs v : I} {own : List Nat} {fs : List Expr} (ngx : ∀ o i, tg ≠ .gx o i) (ow : gOwn own tg = true) (hK : X.K = g.K)
    (hf : fs = [] → ifs = .cst (.bl true)) : ∀ σ H Q, tE P g (n + 1) (.lc tg it ifs v own) σ H Q → tLc (tI P g n it) (gV X.K tg) (tIf P g n ifs fs) (tE P g n v) own σ H Q := fun σ H Q hr => by
  obtain ⟨ρ, h, sg, sim, er, hr⟩ := hr
  refine ⟨ρ, h, sg, sim, er, Run.onsr (show Run g ρ H (ke Q) ((ev P n it sg h).onsr fun s h1 => (loopC s (fLc P n tg ifs v own sg) turns 0 [] h1).ons fun ds h2 => newL h2 ds) from hr) fun s h1 ρ1 H1 m1 s1 hr1 => fun J hJ D hD => ?_⟩
  let W : Nat → Nat → Hp → Prop := fun i m H2 => ∃ (ρ2 : List Addr) (h2 : Hh) (acc : List Ev.D) (av : List V), Mono g ρ1 H1 ρ2 H2 ∧ Sim g ρ2 h2 H2 ∧ D ∉ ρ2 ∧ H2 D = some (.lst av) ∧ Reps g ρ2 H2 acc.reverse av ∧
    Run g ρ1 H1 (ke Q) ((loopC s (fLc P n tg ifs v own sg) m i acc h2).ons fun ds h3 => newL h3 ds)
  have nD : D ∉ ρ1 := fun hm => by
    obtain ⟨a, ha⟩ := List.getElem?_of_mem hm
    obtain ⟨ds, vs, _, e2, _⟩ := sim_at s1 ha
    rw [hD] at e2
    cases e2
  refine ⟨W, ⟨turns, ρ1, h1, [], [], Mono.new hD, s1.new hD, nD, upd_same, .nil, hr1⟩, ?_⟩
  rintro i m H2 ⟨ρ2, h2, acc, av, m2, s2, n2, e2, r2, hr2⟩
  cases m with
  | zero => exact (show False from hr2).elim
  | succ m =>
    have hr2 : Run g ρ1 H1 (ke Q) ((match srcAt h2 s i with
      | some (some d) => match fLc P n tg ifs v own sg d h2 with
        | .ok x h' => loopC s (fLc P n tg ifs v own sg) m (i + 1) (x :: acc) h'
        | .nx _ h' => loopC s (fLc P n tg ifs v own sg) m (i + 1) acc h'
        | _ => .no
      | some none => match Nat.ble acc.length line with
        | true => .oks acc.reverse h2
        | false => .no
      | none => .no).ons fun ds h3 => newL h3 ds) := hr2
    obtain ⟨j1, j2⟩ := hJ ρ2 h2 H2 i m2 s2
    cases e3 : srcAt h2 s i with
    | none => rw [e3] at hr2; exact (show False from hr2).elim
    | some o =>
      rw [e3] at hr2
      cases o with
      | none =>
        left
        refine ⟨j1 e3, ?_⟩
        dsimp only at hr2
        cases e4 : Nat.ble acc.length line with
        | false => rw [e4] at hr2; exact (show False from hr2).elim
        | true =>
          rw [e4] at hr2
          have hr2 : Run g ρ1 H1 (ke Q) (newL h2 acc.reverse) := hr2
          obtain ⟨s3, e5⟩ := s2.adopt e2 n2 r2
          exact hr2 (ρ2 ++ [D]) H2 (.ref D) ⟨m2.h, fun a p e => by
            have := m2.pf a p e
            rw [List.getElem?_append_left (List.getElem?_eq_some_iff.mp this).1]
            exact this, fun p o hp np => by
              obtain ⟨q1, q2⟩ := m2.ou p o hp np
              refine ⟨q1, fun hm => ?_⟩
              rcases List.mem_append.mp hm with hm | hm
              · exact q2 hm
              · simp at hm
                subst hm
                rw [hD] at hp
                cases hp⟩ s3 (.ptr e5)
      | some d =>
        right
        dsimp only at hr2
        obtain ⟨go, yld⟩ := j2 d e3
        refine ⟨go, fun H' => W (i + 1) m H', fun H' w => ⟨m, Nat.lt_succ_self m, w⟩, fun x H' y => ?_⟩
        obtain ⟨m3, s3, r3⟩ := yld x H' y
        have er3 := ((er.mono m1).mono (m2.trans m3)).wipe own
        obtain ⟨e6, n6⟩ := m3.ou D _ e2 n2
        have goes : ∀ (av' : List V) (acc' : List Ev.D) (ρ4 : List Addr) (H4 : Hp) (h4 : Hh), Mono g ρ2 H2 ρ4 H4 → Sim g ρ4 h4 H4 → D ∉ ρ4 → ∀ H5, (H5 = H4 ∧ H4 D = some (.lst av') ∨ H5 = upd H4 D (.lst av')) → (∃ us, H4 D = some (.lst us)) → Reps g ρ4 H4 acc'.reverse av' →
            Run g ρ1 H1 (ke Q) ((loopC s (fLc P n tg ifs v own sg) m (i + 1) acc' h4).ons fun ds h3 => newL h3 ds) → W (i + 1) m H5 := by
          intro av' acc' ρ4 H4 h4 m4 s4 n4 H5 hh ⟨us, hus⟩ rr q
          rcases hh with ⟨rfl, hd⟩ | rfl
          · exact ⟨ρ4, h4, acc', av', m2.trans m4, s4, n4, hd, rr, q⟩
          · have mm := m2.trans m4
            refine ⟨ρ4, h4, acc', av', ⟨mm.h.trans (mono_lst hus), mm.pf, fun p o hp np => ?_⟩, s4.beside hus n4, n4, upd_same, rr.monoH (mono_lst hus), q⟩
            obtain ⟨q1, q2⟩ := mm.ou p o hp np
            exact ⟨by rw [upd_ne (fun z : p = D => by subst z; rw [hD] at hp; cases hp)]; exact q1, q2⟩
        have hq : Run g ρ1 H1 (ke Q) ((match (match asg (ev P n) tg d (wipeD sg own) h2 with
            | .nx σ2 h3 => (ev P n ifs σ2 h3).onb fun k h4 => match k with
              | true => (ev P n v σ2 h4).on fun x h5 => .ok x h5
              | false => .nx σ2 h4
            | _ => .no) with
          | .ok x h' => loopC s (fLc P n tg ifs v own sg) m (i + 1) (x :: acc) h'
          | .nx _ h' => loopC s (fLc P n tg ifs v own sg) m (i + 1) acc h'
          | _ => .no).ons fun ds h3 => newL h3 ds) := hr2
        clear hr2
        cases e4 : asg (ev P n) tg d (wipeD sg own) h2 with
        | nx sg' h2' =>
          rw [e4] at hq
          dsimp only at hq
          rw [hK]
          refine gV_ok own ngx er3 r3 e4 fun eh σ' er' ww => ⟨(ww ow).trans (wipe_wipe σ own), ?_⟩
          subst eh
          -- the rest of the turn, behind its test
          have rest : ∀ (b : Bool) (ρ4 : List Addr) (H4 : Hp) (h4 : Hh), Mono g ρ2 H2 ρ4 H4 → Sim g ρ4 h4 H4 → D ∉ ρ4 → H4 D = some (.lst av) → EnvR g ρ4 H4 sg' σ' → Reps g ρ4 H4 acc.reverse av →
              Run g ρ1 H1 (ke Q) ((match (match b with | true => (ev P n v sg' h4).on fun x h5 => .ok x h5 | false => .nx sg' h4) with
                | .ok x h' => loopC s (fLc P n tg ifs v own sg) m (i + 1) (x :: acc) h'
                | .nx _ h' => loopC s (fLc P n tg ifs v own sg) m (i + 1) acc h'
                | _ => .no).ons fun ds h3 => newL h3 ds) →
              (if b = true then tE P g n v σ' H4 (fun y H5 => ∃ ac, H5 D = some (.lst ac) ∧ ac.length < sizeLine ∧ W (i + 1) m (upd H5 D (.lst (ac ++ [y])))) else W (i + 1) m H4) := by
            intro b ρ4 H4 h4 m4 s4 n4 e7 er4 r4 q
            cases b with
            | false =>
              rw [if_neg Bool.false_ne_true]
              exact goes av acc ρ4 H4 h4 m4 s4 n4 H4 (.inl ⟨rfl, e7⟩) ⟨av, e7⟩ r4 q
            | true =>
              rw [if_pos rfl]
              refine ⟨ρ4, h4, sg', s4, er4, ?_⟩
              dsimp only at q
              cases e8 : ev P n v sg' h4 with
              | ok x h5 =>
                rw [e8] at q
                have q : Run g ρ1 H1 (ke Q) ((loopC s (fLc P n tg ifs v own sg) m (i + 1) (x :: acc) h5).ons fun ds h3 => newL h3 ds) := q
                intro ρ5 H5 y m5 s5 r5
                obtain ⟨e9, n5⟩ := m5.ou D _ e7 n4
                refine ⟨av, e9, ?_, goes (av ++ [y]) (x :: acc) ρ5 H5 h5 (m4.trans m5) s5 n5 _ (.inr rfl) ⟨av, e9⟩ ?_ q⟩
                · cases e10 : loopC s (fLc P n tg ifs v own sg) m (i + 1) (x :: acc) h5 with
                  | oks ds h6 =>
                    have l := loopC_len _ _ _ _ _ _ e10
                    have l2 := (r4.mono m5).length
                    rw [List.length_reverse] at l2
                    rw [List.length_cons] at l
                    omega
                  | _ => rw [e10] at q; exact (show False from q).elim
                · rw [List.reverse_cons]
                  exact (r4.mono m5).append (.cons r5 .nil)
              | _ => rw [e8] at q; exact (show False from q).elim
          have test : ∀ (h4 : Hh) (c : Ev.D), ev P n ifs sg' h2' = .ok c h4 → ∃ b, tru h4 c = some b ∧ Run g ρ1 H1 (ke Q) ((match (match b with | true => (ev P n v sg' h4).on fun x h5 => .ok x h5 | false => .nx sg' h4) with
                | .ok x h' => loopC s (fLc P n tg ifs v own sg) m (i + 1) (x :: acc) h'
                | .nx _ h' => loopC s (fLc P n tg ifs v own sg) m (i + 1) acc h'
                | _ => .no).ons fun ds h3 => newL h3 ds) := by
            intro h4 c e5
            rw [e5] at hq
            have hq : Run g ρ1 H1 (ke Q) ((match (match tru h4 c with
              | some b => (match b with | true => (ev P n v sg' h4).on fun x h5 => .ok x h5 | false => .nx sg' h4)
              | none => .no) with
                | .ok x h' => loopC s (fLc P n tg ifs v own sg) m (i + 1) (x :: acc) h'
                | .nx _ h' => loopC s (fLc P n tg ifs v own sg) m (i + 1) acc h'
                | _ => .no).ons fun ds h3 => newL h3 ds) := hq
            cases e6 : tru h4 c with
            | none => rw [e6] at hq; exact (show False from hq).elim
            | some b => rw [e6] at hq; exact ⟨b, rfl, hq⟩
          cases fs with
          | nil =>
            cases n with
            | zero => exact (show False from hq).elim
            | succ n =>
              obtain ⟨b, e5, q⟩ := test h2' (.bl true) (by rw [hf rfl]; rfl)
              cases e5
              exact rest true ρ2 H' h2' m3 s3 n6 e6 er' (r2.mono m3) q
          | cons f fs =>
            refine ⟨ρ2, h2', sg', s3, er', ?_⟩
            cases e5 : ev P n ifs sg' h2' with
            | ok c h4 =>
              obtain ⟨b, e7, q⟩ := test h4 c e5
              refine ⟨b, e7, fun ρ4 H4 m4 s4 _ => ?_⟩
              obtain ⟨e9, n5⟩ := m4.ou D _ e6 n6
              exact rest b ρ4 H4 h4 (m3.trans m4) s4 n5 e9 (er'.mono m4) ((r2.mono m3).mono m4) q
            | _ => rw [e5] at hq; exact (show False from hq).elim
        | _ => rw [e4] at hq; exact (show False from hq).elim
theorem foldNot {e : Expr} {env : Env} {x : Value} (h : isSet e = false) : foldedSetIterable e env x = pure x := by
  cases e <;> first | rfl | cases h
theorem lc_parts (ih : Main P g M n) (k : XOk P g M N X sc so (n + 1)) {tg it ifs v : I} {own : List Nat} {e : Expr} (c : ckE M N sc (.lc tg it ifs v own) e = true) {C : Prop}
    (f : ∀ (elt t iter : Expr) (fs : List Expr) (scope : Scope) (pos : Pos) (ow : List (Str × Nat)), e = .ListComp elt [⟨t, iter, fs, 0⟩] scope pos → PI X t iter (tI P g n it) → BlkOk X.N X.env.scope scope ow →
      (∀ (s : Shared) (H : Hp) (C : Addr) (cl : List (Str × Addr)) (fp : List Addr), PG (X.blk s H scope (compEnvC scope cl C X.env) fp) t (gV X.K tg)) →
      (∀ (s : Shared) (H : Hp) (C : Addr) (cl : List (Str × Addr)) (fp : List Addr), PTs (X.blk s H scope (compEnvC scope cl C X.env) fp) fs (tIf P g n ifs fs)) →
      (∀ (s : Shared) (H : Hp) (C : Addr) (cl : List (Str × Addr)) (fp : List Addr), PE (X.blk s H scope (compEnvC scope cl C X.env) fp) elt (tE P g n v)) →
      (∀ x, foldedSetIterable iter X.env x = pure x) →
      (∀ σ H Q, tE P g (n + 1) (.lc tg it ifs v own) σ H Q → tLc (tI P g n it) (gV X.K tg) (tIf P g n ifs fs) (tE P g n v) (ow.map (·.2)) σ H Q) → C) : C := by
  unfold ckE at c
  split at c
  · rename_i elt gs scope pos
    split at c
    · rename_i t iter fs as
      obtain ⟨c, c10⟩ := bnd c
      obtain ⟨c, c9⟩ := bnd c
      obtain ⟨c, c8⟩ := bnd c
      obtain ⟨c, c7⟩ := bnd c
      obtain ⟨c, c6⟩ := bnd c
      obtain ⟨c, c5⟩ := bnd c
      obtain ⟨c, c4⟩ := bnd c
      obtain ⟨c, c3⟩ := bnd c
      obtain ⟨c1, c2⟩ := bnd c
      obtain rfl := of_decide_eq_true c1
      have kd : scope.kind = .function := (blkOk_by c3).kind
      have kb := fun (s : Shared) (H : Hp) (C : Addr) (cl : List (Str × Addr)) (fp : List Addr) => k.down.blk kd s H C cl fp
      have ngx : ∀ o i, tg ≠ .gx o i := fun o i e => by subst e; cases c8
      have hown : (own.map fun k => (N.getD k "", k)).map (·.2) = own := by
        rw [List.map_map]
        exact List.map_id' own
      have hf : fs = [] → ifs = .cst (.bl true) := fun e => by
        subst e
        split at c6
        · split at c6
          · rfl
          · cases c6
        · rename_i hh; cases hh
        · rename_i hh _; exact absurd rfl hh
      have ht : ∀ (s : Shared) (H : Hp) (C : Addr) (cl : List (Str × Addr)) (fp : List Addr), PTs (X.blk s H scope (compEnvC scope cl C X.env) fp) fs (tIf P g n ifs fs) := fun s H C cl fp => by
        cases fs with
        | nil => exact pts_nil
        | cons f fs =>
          cases fs with
          | nil => exact pts_one (ih.mT N _ _ _ (kb s H C cl fp) ifs _ c6)
          | cons _ _ => cases c6
      refine f elt t iter fs scope pos _ rfl (ih.mI N X sc so k.down it iter t c2 c10) (blkOk_by (by rw [k.hN, k.hsc]; exact c3)) (fun s H C cl fp => pg_gV (kb s H C cl fp) c4) ht (fun s H C cl fp => ih.mE N _ _ _ (kb s H C cl fp) v elt c7) (fun x => foldNot (notb c9)) ?_
      rw [hown]
      exact lc_imp (scope := scope) ngx c8 k.hK hf
    · cases c
  · cases c
theorem s_lc (ih : Main P g M n) (k : XOk P g M N X sc so (n + 1)) {tg it ifs v : I} {own : List Nat} {e : Expr} (c : ckE M N sc (.lc tg it ifs v own) e = true) : PE X e (tE P g (n + 1) (.lc tg it ifs v own)) :=
  lc_parts ih k c fun elt t iter fs scope pos ow e hi ok hg ht he hs imp => by
    subst e
    exact PE.imp (pe_lc k.calm (by rw [k.hN]; exact k.nd) hi ok hg ht he hs) imp
end
end Ev
-- EvQ
/-! statements -/
namespace Ev
open PySem PySem.Spec PyProof.Rows L2
/-! the sides -/
theorem kind_block {env : Env} (h : env.scope.kind = .function) : env.blockKind = .function := by
  unfold Env.blockKind
  rw [h]
  rfl
theorem sw_eq {env : Env} {ts vs : List Expr} {k k2 : Nat} {p p2 : Pos} : swappedStores [.Tuple ts k p] (.Tuple vs k2 p2) env =
    (if (!(ts.length == 2 || ts.length == 3) || vs.length != ts.length || env.blockKind != .function) = true then pure none
     else if (vs.any isStar) = true then pure none
     else if ((parNames env.scope ts).length != ts.length || (parNames env.scope ts).eraseDups.length != (parNames env.scope ts).length) = true then pure none
     else if (vs.all (foldedForSure 8)) = true then pure none
     else if (vs.all (constantsAlone 8)) = true then (do unsupported "assign.tuple-of-constant-expressions:order-of-the-stores"; pure (some (parNames env.scope ts)))
     else pure (some (parNames env.scope ts))) := by
  unfold swappedStores
  rfl
theorem swNo_ok {env : Env} {sc : Scope} {t e : Expr} (hs : env.scope = sc) (h : swNo sc t e = true) : swappedStores [t] e env = pure none := by
  subst hs
  cases t with
  | Tuple ts k p =>
    cases e with
    | Tuple vs k2 p2 =>
      have h : (!(ts.length == 2 || ts.length == 3) || vs.length != ts.length || vs.all (foldedForSure 8) || (parNames env.scope ts).length != ts.length) = true := h
      rw [sw_eq]
      split
      · rfl
      · rename_i h1
        split
        · rfl
        · split
          · rfl
          · rename_i h3
            split
            · rfl
            · rename_i h4
              exfalso
              simp only [Bool.or_eq_true, not_or] at h h1 h3
              rcases h with ((h | h) | h) | h
              · exact h1.1.1 h
              · exact h1.1.2 h
              · exact h4 h
              · exact h3.1 h
    | _ => unfold swappedStores; rfl
  | List ts p =>
    cases e with
    | Tuple _ _ _ => cases h
    | _ => unfold swappedStores; rfl
  | _ => unfold swappedStores; cases e <;> rfl
theorem swYes_ok {env : Env} {sc : Scope} {ts vs : List Expr} {ns : List Str} {k k2 : Nat} {p p2 : Pos} (hs : env.scope = sc) (hk : sc.kind = .function) (h : swYes sc ts vs ns = true) : swappedStores [.Tuple ts k p] (.Tuple vs k2 p2) env = pure (some ns) := by
  subst hs
  have hb := kind_block hk
  unfold swYes at h
  simp only [Bool.and_eq_true] at h
  obtain ⟨⟨⟨⟨⟨⟨⟨h1, h2⟩, h3⟩, h4⟩, h5⟩, h6⟩, h7⟩, h8⟩ := h
  have h4 := of_decide_eq_true h4
  rw [sw_eq, hb, h4, h1]
  have e2 : (vs.length != ts.length) = false := by simpa using h2
  have e5 : (ns.length != ts.length) = false := by simpa using h5
  have e6 : (ns.eraseDups.length != ns.length) = false := by simpa using h6
  rw [e2, e5, e6, notb h3, notb h7, notb h8]
  rfl
theorem lcB_ok {env : Env} {sc : Scope} {t e : Expr} {l : Nat} {b : Bool} (hs : env.scope = sc) (hk : sc.kind = .function) (h : lcB sc t e = some b) : swapsWithSole [t] e l env = pure b := by
  subst hs
  have hb := kind_block hk
  show swapsWith e (some t) l env = pure b
  cases e with
  | ListComp elt gs s p =>
    unfold swapsWith
    cases t with
    | Name y py =>
      have h := Option.some.inj h
      show (pure (env.blockKind == .function && env.kindOf y == some .local && py.line == p.line && !(s.names.any fun (n, k) => n == y && (k == .local || k == .cell))) : Sem Bool) = pure b
      rw [hb, ← h]
      rfl
    | _ => cases h; rfl
  | SetComp _ _ _ _ => cases h
  | DictComp _ _ _ _ _ => cases h
  | _ => cases h; rfl
theorem comp_no {e : Expr} {t : Option Expr} {l : Nat} {env : Env} (h : isComp e = false) : swapsWith e t l env = pure false := by
  cases e <;> first | (cases h; done) | (unfold swapsWith; rfl)
end Ev
-- EvS
/-! statements are sound -/
namespace Ev
open PySem PySem.Spec PyProof.Rows L2
section
variable {P : Pg} {g : G} {M : Nm} {N : List Str} {X : Cx} {sc so : Scope} {n : Nat}
theorem asgs_nx : ∀ (r : I) (ds : List D) (sg : Sg) (h : Hh), asgs r ds sg h = .no ∨ ∃ sg', asgs r ds sg h = .nx sg' h := by
  intro r
  induction r with
  | gnil =>
    intro ds sg h
    cases ds with
    | nil => exact .inr ⟨sg, rfl⟩
    | cons _ _ => exact .inl rfl
  | gcons g1 r _ ih =>
    intro ds sg h
    cases g1 with
    | gv i =>
      cases ds with
      | nil => exact .inl rfl
      | cons d ds => exact ih ds (sg.set i d) h
    | _ => exact .inl rfl
  | _ => intro ds sg h; exact .inl rfl
theorem asg_nx {E : I → Sg → Hh → R} {tg : I} {d : D} {sg : Sg} {h : Hh} (ngx : ∀ o i, tg ≠ .gx o i) : asg E tg d sg h = .no ∨ ∃ sg', asg E tg d sg h = .nx sg' h := by
  cases tg with
  | gv i => exact .inr ⟨_, rfl⟩
  | gt r =>
    show (match tupOf d with | some ds => asgs r ds sg h | none => .no) = .no ∨ ∃ sg', (match tupOf d with | some ds => asgs r ds sg h | none => .no) = .nx sg' h
    cases tupOf d with
    | none => exact .inl rfl
    | some ds => exact asgs_nx r ds sg h
  | gx o i => exact absurd rfl (ngx o i)
  | _ => exact .inl rfl
/-- a target takes a value -/
theorem asg_run {ρ : List Addr} {H : Hp} {sg : Sg} {σ : L2.St} {h : Hh} {d : D} {v : V} {D' : Ends} {tg : I} (ngx : ∀ o i, tg ≠ .gx o i) (sim : Sim g ρ h H) (er : EnvR g ρ H sg σ) (rr : Rep g ρ H d v) {E : I → Sg → Hh → R} (hr : Run g ρ H (kx D') (asg E tg d sg h)) :
    gV g.K tg v σ H D'.nx := by
  rcases asg_nx (E := E) (d := d) (sg := sg) (h := h) ngx with e | ⟨sg', e⟩
  · rw [e] at hr
    exact (show False from hr).elim
  · rw [e] at hr
    exact gV_ok [] ngx er rr e fun _ σ' er' _ => hr ρ H σ' (Mono.refl _ _ _) sim er'
theorem set_imp {o i : I} {d : D} {v : V} {σ : L2.St} {H : Hp} {D' : Ends} {ρ : List Addr} {h : Hh} {sg : Sg} (sim : Sim g ρ h H) (er : EnvR g ρ H sg σ) (rr : Rep g ρ H d v) (hr : Run g ρ H (kx D') (asg (ev P n) (.gx o i) d sg h)) :
    gSub (tE P g n o) (tE P g n i) rSetL v σ H D'.nx := by
  refine ⟨ρ, h, sg, sim, er, Run.on (show Run g ρ H (kx D') ((ev P n o sg h).on fun x h2 => (ev P n i sg h2).on fun y h3 => match setAt x y d h3 with
    | some h4 => .nx sg h4
    | none => .no) from hr) fun x h2 ρ2 H2 xv m2 s2 r2 hr2 => ?_⟩
  refine ⟨ρ2, h2, sg, s2, er.mono m2, hr2.on fun y h3 ρ3 H3 yv m3 s3 r3 hr3 => ?_⟩
  have go : ∀ {a : Nat} {k : Int} {ds : List D} {j : Nat}, x = .ptr a → y = .int k → h3[a]? = some ds → ixN ds.length k = some j → isPtr d = false → Run g ρ3 H3 (kx D') (.nx sg (h3.set a (ds.set j d))) → rSetL xv yv v H3 fun H4 => D'.nx σ H4 := by
    intro a k ds j ex ey e1 e2 e3 hr4
    subst ex ey
    obtain ⟨p, rfl, hp⟩ := (r2.mono m3).ptr'
    obtain rfl := r3.int
    obtain ⟨ds', vs, h5, h6, h7⟩ := sim_at s3 hp
    rw [e1] at h5
    cases h5
    have rd : Rep g (ρ3.take a) H3 d v := .pure ((rr.mono (m2.trans m3)).toP e3)
    obtain ⟨s4, m4⟩ := s3.write hp h6 (h7.set rd j)
    exact ⟨p, vs, k, j, rfl, rfl, h6, by rw [← h7.length]; exact ixN_ok e2, hr4 ρ3 _ σ m4 s4 ((er.mono (m2.trans m3)).mono m4)⟩
  cases e : setAt x y d h3 with
  | none => rw [e] at hr3; exact (show False from hr3).elim
  | some h4 =>
    rw [e] at hr3
    unfold setAt at e
    split at e
    · rename_i a k
      cases e1 : h3[a]? with
      | none => rw [e1] at e; cases e
      | some ds =>
        rw [e1] at e
        dsimp only at e
        cases e2 : ixN ds.length k with
        | none => rw [e2] at e; cases e
        | some j =>
          rw [e2] at e
          dsimp only at e
          cases e3 : isPtr d with
          | true => rw [e3] at e; cases e
          | false =>
            rw [e3] at e
            cases e
            exact go rfl rfl e1 e2 e3 hr3
    · cases e
theorem asg_imp (hK : X.K = g.K) {a e : I} (ngx : ∀ o i, a ≠ .gx o i) : ∀ D' σ H, tS P g (n + 1) (.sAsg a e) D' σ H → tAsg (tE P g n e) (gV X.K a) D' σ H := fun D' σ H hr => by
  obtain ⟨ρ, h, sg, sim, er, hr⟩ := hr
  refine ⟨ρ, h, sg, sim, er, Run.on (show Run g ρ H (kx D') ((ev P n e sg h).on fun d h1 => asg (ev P n) a d sg h1) from hr) fun d h1 ρ1 H1 v m1 s1 r1 hr1 => ?_⟩
  rw [hK]
  exact asg_run ngx s1 (er.mono m1) r1 hr1
theorem asgx_imp {o i e : I} : ∀ D' σ H, tS P g (n + 1) (.sAsg (.gx o i) e) D' σ H → tAsg (tE P g n e) (gSub (tE P g n o) (tE P g n i) rSetL) D' σ H := fun D' σ H hr => by
  obtain ⟨ρ, h, sg, sim, er, hr⟩ := hr
  refine ⟨ρ, h, sg, sim, er, Run.on (show Run g ρ H (kx D') ((ev P n e sg h).on fun d h1 => asg (ev P n) (.gx o i) d sg h1) from hr) fun d h1 ρ1 H1 v m1 s1 r1 hr1 => ?_⟩
  exact set_imp s1 (er.mono m1) r1 hr1
theorem starG1 {t : Expr} {env : Env} (h : isStar t = false) : (assignEach [t] env).map (·.2) = [assign t env] := by
  rw [notStarG h]
  rfl
theorem pg_gx (ih : Main P g M n) (k : XOk P g M N X sc sc n) {o i : I} {e : Expr} (c : ckG M N sc (.gx o i) e = true) : PG X e (gSub (tE P g n o) (tE P g n i) rSetL) := by
  unfold ckG at c
  split at c
  · rename_i a s pos
    obtain ⟨c, c3⟩ := bnd c
    obtain ⟨c1, c2⟩ := bnd c
    refine pg_sub (ih.mE N X sc sc k o a c1) (ih.mE N X sc sc k i s c2) set_list ?_
    cases s <;> first | (cases c3; done) | (intro _; rfl)
  · cases c
theorem ss_asg (ih : Main P g M n) (k : XOk P g M N X sc sc (n + 1)) {a e : I} {s : Stmt} (c : ckS M N sc (.sAsg a e) s = true) : PS X s (tS P g (n + 1) (.sAsg a e)) := by
  unfold ckS at c
  split at c
  · rename_i ts v pos
    split at c
    · rename_i t
      obtain ⟨c, c5⟩ := bnd c
      obtain ⟨c, c4⟩ := bnd c
      obtain ⟨c, c3⟩ := bnd c
      obtain ⟨c1, c2⟩ := bnd c
      have he := ih.mE N X sc sc k.down e v c1
      have hw := swNo_ok k.hsc c4
      have h1 := starG1 (env := X.env) (notb c3)
      cases hl : lcB sc t v with
      | none => rw [hl] at c5; cases c5
      | some b =>
        have hs := lcB_ok (l := pos.line) k.hsc k.kind hl
        cases b with
        | false =>
          by_cases hg : ∃ o i, a = .gx o i
          · obtain ⟨o, i, rfl⟩ := hg
            exact PS.imp (ps_asg he (pg_gx ih k.down c2) hs hw h1) asgx_imp
          · exact PS.imp (ps_asg he (pg_gV k.down c2) hs hw h1) (asg_imp k.hK fun o i e => hg ⟨o, i, e⟩)
        | true =>
          have : ∃ y py, t = .Name y py := by
            cases v with
            | ListComp elt gs s p =>
              cases t with
              | Name y py => exact ⟨y, py, rfl⟩
              | _ => cases hl
            | SetComp _ _ _ _ => cases hl
            | DictComp _ _ _ _ _ => cases hl
            | _ => cases hl
          obtain ⟨y, py, rfl⟩ := this
          have : ∃ j, a = .gv j ∧ N[j]? = some y := by
            cases a with
            | gv j =>
              obtain ⟨d1, d2⟩ := bnd (show (decide (N[j]? = some y) && locC sc y) = true from c2)
              exact ⟨j, rfl, of_decide_eq_true d1⟩
            | _ => cases c2
          obtain ⟨j, rfl, hj⟩ := this
          exact PS.imp (ih.mL N X sc k.down e v y py pos j c1 hl hj) (asg_imp k.hK fun o i e => by cases e)
    · cases c
  · cases c
end
end Ev
-- EvU
/-! loops and the rest -/
namespace Ev
open PySem PySem.Spec PyProof.Rows L2
section
variable {P : Pg} {g : G} {M : Nm} {N : List Str} {X : Cx} {sc so : Scope} {n : Nat}
def evFor (P : Pg) (n : Nat) (tg b : I) : D → Sg → Hh → R := fun d σ1 h2 => (asg (ev P n) tg d σ1 h2).onx fun σ2 h3 => ev P n b σ2 h3
theorem for_imp (hK : X.K = g.K) {tg it b : I} (ngx : ∀ o i, tg ≠ .gx o i) : ∀ D' σ H, tS P g (n + 1) (.sFor tg it b) D' σ H → tFor (tI P g n it) (gV X.K tg) (tS P g n b) D' σ H := fun D' σ H hr => by
  obtain ⟨ρ, h, sg, sim, er, hr⟩ := hr
  refine ⟨ρ, h, sg, sim, er, Run.onsr (show Run g ρ H (kx D') ((ev P n it sg h).onsr fun s h1 => loopF s (evFor P n tg b) turns 0 sg h1) from hr) fun s h1 ρ1 H1 m1 s1 hr1 => fun J hJ => ?_⟩
  let W : Nat → Nat → L2.St → Hp → Prop := fun i m σ2 H2 => ∃ (ρ2 : List Addr) (h2 : Hh) (sg2 : Sg), Mono g ρ1 H1 ρ2 H2 ∧ Sim g ρ2 h2 H2 ∧ EnvR g ρ2 H2 sg2 σ2 ∧ Run g ρ1 H1 (kx D') (loopF s (evFor P n tg b) m i sg2 h2)
  refine ⟨W, ⟨turns, ρ1, h1, sg, Mono.refl _ _ _, s1, er.mono m1, hr1⟩, ?_⟩
  rintro i m σ2 H2 ⟨ρ2, h2, sg2, m2, s2, er2, hr2⟩
  cases m with
  | zero => exact (show False from hr2).elim
  | succ m =>
    have hr2 : Run g ρ1 H1 (kx D') (match srcAt h2 s i with
      | some (some d) => match evFor P n tg b d sg2 h2 with
        | .nx σ' h' => loopF s (evFor P n tg b) m (i + 1) σ' h'
        | .ct σ' h' => loopF s (evFor P n tg b) m (i + 1) σ' h'
        | .bk σ' h' => .nx σ' h'
        | .rt d h' => .rt d h'
        | _ => .no
      | some none => .nx sg2 h2
      | none => .no) := hr2
    obtain ⟨j1, j2⟩ := hJ ρ2 h2 H2 i m2 s2
    cases e3 : srcAt h2 s i with
    | none => rw [e3] at hr2; exact (show False from hr2).elim
    | some o =>
      rw [e3] at hr2
      cases o with
      | none => exact .inl ⟨j1 e3, hr2 ρ2 H2 σ2 m2 s2 er2⟩
      | some d =>
        right
        obtain ⟨go, yld⟩ := j2 d e3
        refine ⟨go, fun σ' H' => W (i + 1) m σ' H', fun σ' H' w => ⟨m, Nat.lt_succ_self m, w⟩, fun x H' y => ?_⟩
        obtain ⟨m3, s3, r3⟩ := yld x H' y
        have hq : Run g ρ1 H1 (kx D') (match (asg (ev P n) tg d sg2 h2).onx (fun σ2 h3 => ev P n b σ2 h3) with
          | .nx σ' h' => loopF s (evFor P n tg b) m (i + 1) σ' h'
          | .ct σ' h' => loopF s (evFor P n tg b) m (i + 1) σ' h'
          | .bk σ' h' => .nx σ' h'
          | .rt d h' => .rt d h'
          | _ => .no) := hr2
        clear hr2
        rw [hK]
        rcases asg_nx (E := ev P n) (d := d) (sg := sg2) (h := h2) ngx with e4 | ⟨sg', e4⟩
        · rw [e4] at hq
          exact (show False from hq).elim
        · rw [e4] at hq
          refine gV_ok [] ngx (er2.mono m3) r3 e4 fun _ σ' er' _ => ?_
          refine ⟨ρ2, h2, sg', s3, er', ?_⟩
          have hq : Run g ρ1 H1 (kx D') (match ev P n b sg' h2 with
            | .nx σ' h' => loopF s (evFor P n tg b) m (i + 1) σ' h'
            | .ct σ' h' => loopF s (evFor P n tg b) m (i + 1) σ' h'
            | .bk σ' h' => .nx σ' h'
            | .rt d h' => .rt d h'
            | _ => .no) := by
            cases e5 : ev P n b sg' h2 with
            | _ => rw [show (R.nx sg' h2).onx (fun σ2 h3 => ev P n b σ2 h3) = ev P n b sg' h2 from rfl, e5] at hq; exact hq
          have m23 := m2.trans m3
          cases e5 : ev P n b sg' h2 with
          | nx sg5 h5 =>
            rw [e5] at hq
            exact fun ρ5 H5 σ5 m5 s5 er5 => ⟨ρ5, h5, sg5, m23.trans m5, s5, er5, hq⟩
          | ct sg5 h5 =>
            rw [e5] at hq
            exact fun ρ5 H5 σ5 m5 s5 er5 => ⟨ρ5, h5, sg5, m23.trans m5, s5, er5, hq⟩
          | bk sg5 h5 =>
            rw [e5] at hq
            exact fun ρ5 H5 σ5 m5 s5 er5 => hq ρ5 H5 σ5 (m23.trans m5) s5 er5
          | rt d5 h5 =>
            rw [e5] at hq
            exact fun ρ5 H5 σ5 m5 s5 er5 => hq ρ5 H5 σ5 (m23.trans m5) s5 er5
          | _ => rw [e5] at hq; exact (show False from hq).elim
theorem wh_imp {t b : I} : ∀ D' σ H, tS P g (n + 1) (.sWh t b) D' σ H → tWhile (tT P g n t) (tS P g n b) D' σ H := fun D' σ H hr => by
  obtain ⟨ρ1, h1, sg, s1, er, hr⟩ := hr
  let W : Nat → L2.St → Hp → Prop := fun m σ2 H2 => ∃ (ρ2 : List Addr) (h2 : Hh) (sg2 : Sg), Mono g ρ1 H ρ2 H2 ∧ Sim g ρ2 h2 H2 ∧ EnvR g ρ2 H2 sg2 σ2 ∧ Run g ρ1 H (kx D') (loopW (fun σ1 h1 => ev P n t σ1 h1) (fun σ1 h1 => ev P n b σ1 h1) m sg2 h2)
  refine ⟨W, ⟨turns, ρ1, h1, sg, Mono.refl _ _ _, s1, er, hr⟩, ?_⟩
  rintro m σ2 H2 ⟨ρ2, h2, sg2, m2, s2, er2, hr2⟩
  cases m with
  | zero => exact (show False from hr2).elim
  | succ m =>
    have hr2 : Run g ρ1 H (kx D') ((ev P n t sg2 h2).onb fun b' h1 => match b' with
      | true => match ev P n b sg2 h1 with
        | .nx σ' h' => loopW (fun σ1 h1 => ev P n t σ1 h1) (fun σ1 h1 => ev P n b σ1 h1) m σ' h'
        | .ct σ' h' => loopW (fun σ1 h1 => ev P n t σ1 h1) (fun σ1 h1 => ev P n b σ1 h1) m σ' h'
        | .bk σ' h' => .nx σ' h'
        | .rt d h' => .rt d h'
        | _ => .no
      | false => .nx sg2 h1) := hr2
    refine ⟨ρ2, h2, sg2, s2, er2, ?_⟩
    obtain ⟨d, h3, c, e1, e2, hq⟩ := hr2.onbT
    rw [e1]
    refine ⟨c, e2, fun ρ3 H3 m3 s3 _ => ?_⟩
    have er3 := er2.mono m3
    have m23 := m2.trans m3
    cases c with
    | false =>
      dsimp only
      rw [if_neg Bool.false_ne_true]
      exact hq ρ3 H3 σ2 m23 s3 er3
    | true =>
      dsimp only
      rw [if_pos rfl]
      refine ⟨fun σ' H' => W m σ' H', fun σ' H' w => ⟨m, Nat.lt_succ_self m, w⟩, ρ3, h3, sg2, s3, er3, ?_⟩
      dsimp only at hq
      cases e5 : ev P n b sg2 h3 with
      | nx sg5 h5 =>
        rw [e5] at hq
        exact fun ρ5 H5 σ5 m5 s5 er5 => ⟨ρ5, h5, sg5, m23.trans m5, s5, er5, hq⟩
      | ct sg5 h5 =>
        rw [e5] at hq
        exact fun ρ5 H5 σ5 m5 s5 er5 => ⟨ρ5, h5, sg5, m23.trans m5, s5, er5, hq⟩
      | bk sg5 h5 =>
        rw [e5] at hq
        exact fun ρ5 H5 σ5 m5 s5 er5 => hq ρ5 H5 σ5 (m23.trans m5) s5 er5
      | rt d5 h5 =>
        rw [e5] at hq
        exact fun ρ5 H5 σ5 m5 s5 er5 => hq ρ5 H5 σ5 (m23.trans m5) s5 er5
      | _ => rw [e5] at hq; exact (show False from hq).elim
theorem if_imp {t a b : I} : ∀ D' σ H, tS P g (n + 1) (.sIf t a b) D' σ H → tIfS (tT P g n t) (tS P g n a) (tS P g n b) D' σ H := fun D' σ H hr => by
  obtain ⟨ρ, h, sg, sim, er, hr⟩ := hr
  refine ⟨ρ, h, sg, sim, er, ?_⟩
  obtain ⟨d, h3, c, e1, e2, hq⟩ := Run.onbT (show Run g ρ H (kx D') ((ev P n t sg h).onb fun k h1 => match k with
      | true => ev P n a sg h1
      | false => ev P n b sg h1) from hr)
  rw [e1]
  refine ⟨c, e2, fun ρ3 H3 m3 s3 _ => ?_⟩
  cases c with
  | true => rw [if_pos rfl]; exact ⟨ρ3, h3, sg, s3, er.mono m3, Run.base m3 hq⟩
  | false => rw [if_neg Bool.false_ne_true]; exact ⟨ρ3, h3, sg, s3, er.mono m3, Run.base m3 hq⟩
theorem seq_imp {a r : I} : ∀ D' σ H, tS P g (n + 1) (.sCons a r) D' σ H → tSeq (tS P g n a) (tS P g n r) D' σ H := fun D' σ H hr => by
  obtain ⟨ρ, h, sg, sim, er, hr⟩ := hr
  refine ⟨ρ, h, sg, sim, er, ?_⟩
  have hq : Run g ρ H (kx D') ((ev P n a sg h).onx fun σ1 h1 => ev P n r σ1 h1) := hr
  cases e : ev P n a sg h with
  | nx sg1 h1 =>
    rw [e] at hq
    exact fun ρ1 H1 σ1 m1 s1 er1 => ⟨ρ1, h1, sg1, s1, er1, Run.base m1 hq⟩
  | rt d h1 => rw [e] at hq; exact hq
  | bk sg1 h1 => rw [e] at hq; exact hq
  | ct sg1 h1 => rw [e] at hq; exact hq
  | _ => rw [e] at hq; exact (show False from hq).elim
theorem ret_imp {e : I} : ∀ D' σ H, tS P g (n + 1) (.sRet e) D' σ H → tRet (tE P g n e) D' σ H := fun D' σ H hr => by
  obtain ⟨ρ, h, sg, sim, er, hr⟩ := hr
  refine ⟨ρ, h, sg, sim, er, Run.on (show Run g ρ H (kx D') ((ev P n e sg h).on fun d h1 => .rt d h1) from hr) fun d h1 ρ1 H1 v m1 s1 r1 hr1 => ?_⟩
  exact hr1 ρ1 H1 v (Mono.refl _ _ _) s1 r1
theorem drop_imp {e : I} : ∀ D' σ H, tS P g (n + 1) (.sExp e) D' σ H → tDrop (tE P g n e) D' σ H := fun D' σ H hr => by
  obtain ⟨ρ, h, sg, sim, er, hr⟩ := hr
  refine ⟨ρ, h, sg, sim, er, Run.on (show Run g ρ H (kx D') ((ev P n e sg h).on fun _ h1 => .nx sg h1) from hr) fun d h1 ρ1 H1 v m1 s1 r1 hr1 => ?_⟩
  exact hr1 ρ1 H1 σ (Mono.refl _ _ _) s1 (er.mono m1)
theorem par2_imp {i j : Nat} {a b : I} : ∀ D' σ H, tS P g (n + 1) (.sPar2 i j a b) D' σ H → tPar i j (tCons (tE P g n a) (tCons (tE P g n b) tNil)) D' σ H := fun D' σ H hr => by
  obtain ⟨ρ, h, sg, sim, er, hr⟩ := hr
  refine ⟨ρ, h, sg, sim, er, Run.on (show Run g ρ H (kx D') ((ev P n a sg h).on fun x h1 => (ev P n b sg h1).on fun y h2 => .nx ((sg.set i x).set j y) h2) from hr) fun d h1 ρ1 H1 v m1 s1 r1 hr1 => ?_⟩
  refine ⟨ρ1, h1, sg, s1, er.mono m1, hr1.on fun d2 h2 ρ2 H2 v2 m2 s2 r2 hr2 => ?_⟩
  exact ⟨v, v2, rfl, hr2 ρ2 H2 _ (Mono.refl _ _ _) s2 ((((er.mono m1).mono m2).set (r1.mono m2)).set r2)⟩
theorem par3_imp {i j l : Nat} {a b c : I} : ∀ D' σ H, tS P g (n + 1) (.sPar3 i j l a b c) D' σ H → tPar3 i j l (tCons (tE P g n a) (tCons (tE P g n b) (tCons (tE P g n c) tNil))) D' σ H := fun D' σ H hr => by
  obtain ⟨ρ, h, sg, sim, er, hr⟩ := hr
  refine ⟨ρ, h, sg, sim, er, Run.on (show Run g ρ H (kx D') ((ev P n a sg h).on fun x h1 => (ev P n b sg h1).on fun y h2 => (ev P n c sg h2).on fun z h3 => .nx (((sg.set i x).set j y).set l z) h3) from hr) fun d h1 ρ1 H1 v m1 s1 r1 hr1 => ?_⟩
  refine ⟨ρ1, h1, sg, s1, er.mono m1, hr1.on fun d2 h2 ρ2 H2 v2 m2 s2 r2 hr2 => ?_⟩
  refine ⟨ρ2, h2, sg, s2, (er.mono m1).mono m2, hr2.on fun d3 h3 ρ3 H3 v3 m3 s3 r3 hr3 => ?_⟩
  exact ⟨v, v2, v3, rfl, hr3 ρ3 H3 _ (Mono.refl _ _ _) s3 ((((((er.mono m1).mono m2).mono m3).set ((r1.mono m2).mono m3)).set (r2.mono m3)).set r3)⟩
theorem locB_ok (k : XOk P g M N X sc so n) {x : Str} (h : locB sc x = true) : X.env.scope.names.lookup x = some .local := by
  unfold locB at h
  rw [k.hsc]
  split at h
  · assumption
  · cases h
theorem swYes_star {ts vs : List Expr} {ns : List Str} (h : swYes sc ts vs ns = true) : vs.any isStar = false := by
  unfold swYes at h
  simp only [Bool.and_eq_true] at h
  exact notb h.1.1.1.1.1.2
/-! augmented assignments -/
def rAug (g : G) (o : BOp) : TIp := fun x y H Q => ∃ (ρ : List Addr) (h : Hh) (d e : D), Sim g ρ h H ∧ Rep g ρ H d x ∧ Rep g ρ H e y ∧ Run g ρ H (ke Q) (augop o d e h)
theorem ip_aug (o : BOp) : PIp X (bopOf o) (rAug g o) := by
  intro pins s σ H x y v u Q I rx ry hr
  obtain ⟨ρ, h, d, e, sim, rd, re, hr⟩ := hr
  cases d with
  | int i =>
    cases e with
    | int j =>
      obtain rfl := rd.int
      obtain rfl := re.int
      obtain ⟨t, rfl⟩ := rx
      obtain ⟨t', rfl⟩ := ry
      have fin : ∀ {z : Int}, Run g ρ H (ke Q) (.ok (.int z) h) → ∀ tk, EP X pins σ Q (.int z tk) { s with toks := s.toks + 1 } := fun hq tk => ⟨.int _, H, I.tok _, ⟨_, rfl⟩, hq.mk sim (.pure (.int _))⟩
      cases o with
      | add => exact iadd_int (fin hr _)
      | sub => exact isub_int (fin hr _)
      | mul =>
        have hr' : Run g ρ H (ke Q) (match mulOk i j with | true => .ok (.int (i * j)) h | false => .no) := hr
        cases c : mulOk i j with
        | false => rw [c] at hr'; exact (show False from hr').elim
        | true => rw [c] at hr'; exact imul_int (fin hr' _) (mulOk_ok c)
      | mod =>
        have hr' : Run g ρ H (ke Q) (match posI j with | true => .ok (.int (i % j)) h | false => .no) := hr
        cases c : posI j with
        | false => rw [c] at hr'; exact (show False from hr').elim
        | true =>
          rw [c] at hr'
          have z := posI_ok c
          refine imod_int (by omega) ?_
          rw [Int.fmod_eq_emod_of_nonneg i (by omega)]
          exact fin hr' _
      | fdiv =>
        have hr' : Run g ρ H (ke Q) (match divOk j with | true => .ok (.int (i / j)) h | false => .no) := hr
        cases c : divOk j with
        | false => rw [c] at hr'; exact (show False from hr').elim
        | true =>
          rw [c] at hr'
          have z := posI_ok (Bool.and_eq_true_iff.mp c).1
          refine ifloordiv_int (by omega) ?_ ?_
          · rw [Int.fdiv_eq_ediv_of_nonneg i (by omega)]
            exact fin hr' _
          · exact .inl (PyProof.noPylong_of_log2 (divOk_ok (i := i) c).2)
      | pow => exact (show False from hr).elim
    | _ => exact (show False from hr).elim
  | _ => cases e <;> exact (show False from hr).elim
theorem aug_imp {i : Nat} {o : BOp} {e : I} : ∀ D' σ H, tS P g (n + 1) (.sAug i o e) D' σ H → tAug i (tE P g n e) (rAug g o) D' σ H := fun D' σ H hr => by
  obtain ⟨ρ, h, sg, sim, er, hr⟩ := hr
  have hq : Run g ρ H (kx D') ((getV sg i h).on fun x h1 => (ev P n e sg h1).on fun y h2 => (augop o x y h2).on fun z h3 => .nx (sg.set i z) h3) := hr
  unfold getV at hq
  cases e1 : sg[i]? with
  | none => rw [e1] at hq; exact (show False from hq).elim
  | some d =>
    rw [e1] at hq
    cases e2 : isUna d with
    | true => simp only [e2] at hq; exact (show False from hq).elim
    | false =>
      simp only [e2] at hq
      have hq : Run g ρ H (kx D') ((ev P n e sg h).on fun y h2 => (augop o d y h2).on fun z h3 => .nx (sg.set i z) h3) := hq
      obtain ⟨v, e3, rv⟩ := er.at_ i d e1 e2
      refine ⟨v, e3, ρ, h, sg, sim, er, hq.on fun y h2 ρ2 H2 yv m2 s2 r2 hr2 => ?_⟩
      refine ⟨ρ2, h2, d, y, s2, rv.mono m2, r2, hr2.on fun z h3 ρ3 H3 zv m3 s3 r3 hr3 => ?_⟩
      exact hr3 ρ3 H3 _ (Mono.refl _ _ _) s3 (((er.mono m2).mono m3).set r3)
def rGetA (g : G) : V → V → Hp → VK → Prop := fun x y H Q => ∃ (ρ : List Addr) (h : Hh) (a : Nat) (e : D), Sim g ρ h H ∧ Rep g ρ H (.ptr a) x ∧ Rep g ρ H e y ∧ Run g ρ H (ke Q) (index (.ptr a) e h)
theorem get_aug (hK : X.K = g.K) : PGet X (rGetA g) := by
  intro pins s σ H x y v u Q I rx ry hr
  obtain ⟨ρ, h, a, e, sim, rd, re, hr⟩ := hr
  obtain ⟨p0, rfl, hp0⟩ := rd.ptr'
  obtain ⟨p, vs, k, z, ep, rfl, q, at_, hQ⟩ := index_inv sim rd re hr
  cases ep
  cases rx
  obtain ⟨t, rfl⟩ := ry
  have lst : ∃ ws, H p0 = some (.lst ws) := by
    have hl : a < h.length := by rw [← sim.len]; exact (List.getElem?_eq_some_iff.mp hp0).1
    obtain ⟨ws, h1, _⟩ := sim.get (show h[a]? = some h[a] by simp [hl]) hp0
    exact ⟨ws, h1⟩
  rw [← hK] at q
  have q : SqL X.K H p0 vs := by
    rcases q with q | q
    · exact q
    · obtain ⟨ws, hw⟩ := lst
      obtain ⟨its, r, pl, hz⟩ := I.tuple q
      obtain ⟨its2, n2, r2, ho2, hz2⟩ := I.lst hw
      obtain ⟨o, h1, h2, _⟩ := pl
      rw [ho2] at h1
      cases h1
      exact absurd h2 (by intro z; have := Value.type.inj z; revert this; decide)
  obtain ⟨its, r, pl, hz⟩ := I.list q
  obtain ⟨j, h1, h2, h3, h4, h5⟩ := atI_get at_
  obtain ⟨w, ew, rw'⟩ := r.get h2
  have hl := r.length
  have hn := line63
  have fin : EP X pins σ Q w s := ⟨z, H, I, rw', hQ⟩
  by_cases h0 : 0 ≤ k
  · rw [seqIndex_of h0 h5] at h1
    have e1 := Option.some.inj h1
    exact wpAny_getItem_list pl.isList h0 (by omega) (by rw [e1]; simpa using ew) fin
  · rw [seqIndex_neg (by omega) h4] at h1
    have e1 := Option.some.inj h1
    exact wpAny_getItem_list_neg pl.isList (by omega) (by rw [List.size_toArray] <;> omega) (by omega) (by rw [List.size_toArray, ← hl, e1]; simpa using ew) fin
def rSetA (g : G) : TSet := fun x y z H Q => ∃ (ρ : List Addr) (h : Hh) (a : Nat) (e d : D) (h' : Hh), Sim g ρ h H ∧ Rep g ρ H (.ptr a) x ∧ Rep g ρ H e y ∧ Rep g ρ H d z ∧ setAt (.ptr a) e d h = some h' ∧ ∀ H', Mono g ρ H ρ H' → Sim g ρ h' H' → Q H'
theorem setA_list : PSet X (rSetA g) := by
  intro pins s σ H x y zv v u w Q I rx ry rz hr
  obtain ⟨ρ, h, a, e, d, h', sim, rd, re, rz2, hs, hq⟩ := hr
  refine set_list pins s σ H x y zv v u w Q I rx ry rz ?_
  obtain ⟨p, rfl, hp⟩ := rd.ptr'
  cases e with
  | int k =>
    obtain rfl := re.int
    have hs : (match h[a]? with
      | some ds => match Ev.ixN ds.length k with
        | some j => match isPtr d with
          | true => none
          | false => some (h.set a (ds.set j d))
        | none => none
      | none => none) = some h' := hs
    cases e1 : h[a]? with
    | none => rw [e1] at hs; cases hs
    | some ds =>
      rw [e1] at hs
      dsimp only at hs
      cases e2 : Ev.ixN ds.length k with
      | none => rw [e2] at hs; cases hs
      | some j =>
        rw [e2] at hs
        dsimp only at hs
        cases e3 : isPtr d with
        | true => rw [e3] at hs; cases hs
        | false =>
          rw [e3] at hs
          cases hs
          obtain ⟨ds', vs, h5, h6, h7⟩ := sim_at sim hp
          rw [e1] at h5
          cases h5
          have rd' : Rep g (ρ.take a) H d zv := .pure (rz2.toP e3)
          obtain ⟨s4, m4⟩ := sim.write hp h6 (h7.set rd' j)
          exact ⟨p, vs, k, j, rfl, rfl, h6, by rw [← h7.length]; exact ixN_ok e2, hq _ m4 s4⟩
  | _ => cases hs
theorem augX_imp {o i : I} {op : BOp} {e : I} : ∀ D' σ H, tS P g (n + 1) (.sAugX o i op e) D' σ H → tAugS (tE P g n o) (tE P g n i) (tE P g n e) (rGetA g) (rAug g op) (rSetA g) D' σ H := fun D' σ H hr => by
  obtain ⟨ρ, h, sg, sim, er, hr⟩ := hr
  refine ⟨ρ, h, sg, sim, er, Run.on (show Run g ρ H (kx D') ((ev P n o sg h).on fun x h1 => (ev P n i sg h1).on fun y h2 => match x with
      | .ptr a => (index (.ptr a) y h2).on fun u h3 => (ev P n e sg h3).on fun v h4 => (augop op u v h4).on fun z h5 => match setAt (.ptr a) y z h5 with
        | some h6 => .nx sg h6
        | none => .no
      | _ => .no) from hr) fun x h1 ρ1 H1 xv m1 s1 r1 hr1 => ?_⟩
  refine ⟨ρ1, h1, sg, s1, er.mono m1, hr1.on fun y h2 ρ2 H2 yv m2 s2 r2 hr2 => ?_⟩
  cases x with
  | ptr a =>
    refine ⟨ρ2, h2, a, y, s2, r1.mono m2, r2, hr2.on fun u h3 ρ3 H3 uv m3 s3 r3 hr3 => ?_⟩
    refine ⟨ρ3, h3, sg, s3, ((er.mono m1).mono m2).mono m3, hr3.on fun v h4 ρ4 H4 vv m4 s4 r4 hr4 => ?_⟩
    refine ⟨ρ4, h4, u, v, s4, r3.mono m4, r4, hr4.on fun z h5 ρ5 H5 zv m5 s5 r5 hr5 => ?_⟩
    cases c : setAt (.ptr a) y z h5 with
    | none => rw [c] at hr5; exact (show False from hr5).elim
    | some h6 =>
      rw [c] at hr5
      refine ⟨ρ5, h5, a, y, z, h6, s5, (((r1.mono m2).mono m3).mono m4).mono m5, ((r2.mono m3).mono m4).mono m5, r5, c, fun H6 m6 s6 => ?_⟩
      exact hr5 ρ5 H6 σ m6 s6 ((((((er.mono m1).mono m2).mono m3).mono m4).mono m5).mono m6)
  | _ => exact (show False from hr2).elim
theorem augNot {j : Expr} (h : isSlice j = false) (ov iv nw : Value) : augStore j ov iv nw = (do holding [nw, ov, iv] (setItem ov iv nw); release [nw, ov, iv] []; pure .next) := by
  cases j <;> first | rfl | cases h
theorem m_S (ih : Main P g M n) (k : XOk P g M N X sc sc (n + 1)) (hp : PassesOwn (model X.prog X.w) X.A X.env X.xe) (i : I) (s : Stmt) (c0 : ckS M N sc i s = true) : PS X s (tS P g (n + 1) i) := by
  have c := c0
  unfold ckS at c
  split at c
  · exact ss_asg ih k c0
  · split at c
    · split at c
      · rename_i x p y q _ _ u w _ _
        obtain ⟨c, c8⟩ := bnd c
        obtain ⟨c, c7⟩ := bnd c
        obtain ⟨c, c6⟩ := bnd c
        obtain ⟨c, c5⟩ := bnd c
        obtain ⟨c, c4⟩ := bnd c
        obtain ⟨c, c3⟩ := bnd c
        obtain ⟨c1, c2⟩ := bnd c
        have hst := swYes_star c8
        have s1 : isStar u = false := by simp only [List.any_cons, List.any_nil, Bool.or_false, Bool.or_eq_false_iff] at hst; exact hst.1
        have s2 : isStar w = false := by simp only [List.any_cons, List.any_nil, Bool.or_false, Bool.or_eq_false_iff] at hst; exact hst.2
        exact PS.imp (ps_par k.calm (by rw [k.hN]; exact k.nd) (by rw [k.hN]; exact of_decide_eq_true c3) (by rw [k.hN]; exact of_decide_eq_true c4) (of_decide_eq_true c5) (locB_ok k c6) (locB_ok k c7)
          (pa_cons (ih.mE N X sc sc k.down _ u c1) (pa_cons (ih.mE N X sc sc k.down _ w c2) pa_nil (notStar s2)) (notStar s1)) (swYes_ok k.hsc k.kind c8) (by unfold swapsWithSole; exact comp_no rfl)) par2_imp
      · cases c
    · cases c
  · split at c
    · split at c
      · rename_i x p y q z r _ _ u w t _ _
        obtain ⟨c, c13⟩ := bnd c
        obtain ⟨c, c12⟩ := bnd c
        obtain ⟨c, c11⟩ := bnd c
        obtain ⟨c, c10⟩ := bnd c
        obtain ⟨c, c9⟩ := bnd c
        obtain ⟨c, c8⟩ := bnd c
        obtain ⟨c, c7⟩ := bnd c
        obtain ⟨c, c6⟩ := bnd c
        obtain ⟨c, c5⟩ := bnd c
        obtain ⟨c, c4⟩ := bnd c
        obtain ⟨c, c3⟩ := bnd c
        obtain ⟨c1, c2⟩ := bnd c
        have hst := swYes_star c13
        simp only [List.any_cons, List.any_nil, Bool.or_false, Bool.or_eq_false_iff] at hst
        obtain ⟨s1, s2, s3⟩ := hst
        exact PS.imp (ps_par3 k.calm (by rw [k.hN]; exact k.nd) (by rw [k.hN]; exact of_decide_eq_true c4) (by rw [k.hN]; exact of_decide_eq_true c5) (by rw [k.hN]; exact of_decide_eq_true c6) (of_decide_eq_true c7) (of_decide_eq_true c8) (of_decide_eq_true c9) (locB_ok k c10) (locB_ok k c11) (locB_ok k c12)
          (pa_cons (ih.mE N X sc sc k.down _ u c1) (pa_cons (ih.mE N X sc sc k.down _ w c2) (pa_cons (ih.mE N X sc sc k.down _ t c3) pa_nil (notStar s3)) (notStar s2)) (notStar s1)) (swYes_ok k.hsc k.kind c13) (by unfold swapsWithSole; exact comp_no rfl)) par3_imp
      · cases c
    · cases c
  · split at c
    · rename_i t p v pos
      obtain ⟨c, c3⟩ := bnd c
      obtain ⟨c1, c2⟩ := bnd c
      obtain rfl := bopB_ok c2
      split at c1
      · obtain ⟨d1, d2⟩ := bnd c1
        obtain ⟨l1, l2⟩ := locC_ok k d2
        exact PS.imp (ps_aug (by rw [k.hN]; exact k.nd) (by rw [k.hN]; exact of_decide_eq_true d1) l1 (ih.mE N X sc sc k.down _ v c3) (ip_aug (g := g) _) l2) aug_imp
      · cases c1
    · cases c
  · split at c
    · rename_i t p v pos
      obtain ⟨c, c3⟩ := bnd c
      obtain ⟨c1, c2⟩ := bnd c
      obtain rfl := bopB_ok c2
      split at c1
      · rename_i a j tpos
        obtain ⟨c1, d3⟩ := bnd c1
        obtain ⟨d1, d2⟩ := bnd c1
        exact PS.imp (ps_augS (ih.mE N X sc sc k.down _ _ d1) (ih.mE N X sc sc k.down _ _ d2) (get_aug k.hK) (ih.mE N X sc sc k.down _ v c3) (ip_aug (g := g) _) (setA_list (g := g)) (fun ov iv nw => augNot (notb d3) ov iv nw)) augX_imp
      · cases c1
    · cases c
  · split at c
    · obtain ⟨c1, c2⟩ := bnd c
      exact PS.imp (ps_expr (ih.mE N X sc sc k.down _ _ c1) (comp_no (notb c2))) drop_imp
    · cases c
  · split at c
    · rename_i t it body orelse pos
      obtain ⟨c, c7⟩ := bnd c
      obtain ⟨c, c6⟩ := bnd c
      obtain ⟨c, c5⟩ := bnd c
      obtain ⟨c, c4⟩ := bnd c
      obtain ⟨c, c3⟩ := bnd c
      obtain ⟨c1, c2⟩ := bnd c
      cases orelse with
      | cons _ _ => cases c5
      | nil => exact PS.imp (ps_for hp k.calm (ih.mI N X sc sc k.down _ it t c1 c3) (pg_gV k.down c2) (ih.mSs N X sc k.down hp _ body c4) (fun x => foldNot (notb c6))) (for_imp k.hK fun o i e => by subst e; cases c7)
    · cases c
  · split at c
    · rename_i cc body orelse pos
      obtain ⟨c, c3⟩ := bnd c
      obtain ⟨c1, c2⟩ := bnd c
      cases orelse with
      | cons _ _ => cases c3
      | nil => exact PS.imp (ps_while hp (ih.mT N X sc sc k.down _ cc c1) (ih.mSs N X sc k.down hp _ body c2)) wh_imp
    · cases c
  · split at c
    · obtain ⟨c, c3⟩ := bnd c
      obtain ⟨c1, c2⟩ := bnd c
      exact PS.imp (ps_if (ih.mT N X sc sc k.down _ _ c1) (ih.mSs N X sc k.down hp _ _ c2) (ih.mSs N X sc k.down hp _ _ c3)) if_imp
    · cases c
  · split at c
    · split at c
      · exact PS.imp (ps_ret (ih.mE N X sc sc k.down _ _ c)) ret_imp
      · cases c
    · cases c
  · split at c
    · rename_i v pos
      cases v with
      | some _ => cases c
      | none => exact PS.imp ps_retN fun D' σ H ⟨ρ, h, sg, sim, er, hr⟩ => hr ρ H .non (Mono.refl _ _ _) sim (.pure .non)
    · cases c
  · exact PS.imp ps_never fun D' σ H ⟨ρ, h, sg, sim, er, hr⟩ => (show False from hr)
  · split at c
    · exact PS.imp ps_pass fun D' σ H ⟨ρ, h, sg, sim, er, hr⟩ => hr ρ H σ (Mono.refl _ _ _) sim er
    · split at c
      · exact PS.imp ps_doc fun D' σ H ⟨ρ, h, sg, sim, er, hr⟩ => hr ρ H σ (Mono.refl _ _ _) sim er
      · cases c
    · cases c
  · split at c
    · exact PS.imp ps_break fun D' σ H ⟨ρ, h, sg, sim, er, hr⟩ => hr ρ H σ (Mono.refl _ _ _) sim er
    · cases c
  · split at c
    · exact PS.imp ps_continue fun D' σ H ⟨ρ, h, sg, sim, er, hr⟩ => hr ρ H σ (Mono.refl _ _ _) sim er
    · cases c
  · cases c
theorem m_Ss (ih : Main P g M n) (k : XOk P g M N X sc sc (n + 1)) (hp : PassesOwn (model X.prog X.w) X.A X.env X.xe) (i : I) (ss : List Stmt) (c : ckSs M N sc i ss = true) : PSs X ss (tS P g (n + 1) i) := by
  unfold ckSs at c
  split at c
  · cases ss with
    | cons _ _ => cases c
    | nil => exact PSs.imp pss_nil fun D' σ H ⟨ρ, h, sg, sim, er, hr⟩ => hr ρ H σ (Mono.refl _ _ _) sim er
  · exact PSs.imp pss_never fun D' σ H ⟨ρ, h, sg, sim, er, hr⟩ => (show False from hr)
  · split at c
    · obtain ⟨c1, c2⟩ := bnd c
      exact PSs.imp (pss_cons (ih.mS N X sc k.down hp _ _ c1) (ih.mSs N X sc k.down hp _ _ c2)) seq_imp
    · cases c
  · cases c
end
end Ev
-- EvV
/-! the defs; all depths -/
namespace Ev
open PySem PySem.Spec PyProof.Rows L2
section
variable {P : Pg} {g : G} {M : Nm} {N : List Str} {X : Cx} {sc so : Scope} {n : Nat}
theorem m_L (ih : Main P g M n) (k : XOk P g M N X sc sc (n + 1)) (i : I) (e : Expr) (y : Str) (py pos : Pos) (j : Nat) (c : ckE M N sc i e = true) (hl : lcB sc (.Name y py) e = some true) (hj : N[j]? = some y) : PS X (.Assign [.Name y py] e pos) (tAsg (tE P g (n + 1) i) (gName j)) := by
  have hs := lcB_ok (env := X.env) (l := pos.line) k.hsc k.kind hl
  cases e with
  | ListComp elt gs s p =>
    have hy : sc.names.lookup y = some .local := by
      have z := Option.some.inj hl
      obtain ⟨z, _⟩ := bnd z
      obtain ⟨z, _⟩ := bnd z
      simpa using z
    cases i with
    | lc tg it ifs v own =>
      refine lc_parts ih k c fun elt' t iter fs scope pos' ow e hi ok hg ht he hs' imp => ?_
      cases e
      refine PS.imp (ps_setLc k.calm (by rw [k.hN]; exact k.nd) (by rw [k.hN]; exact hj) (by rw [k.hsc]; exact hy) hs hi ok hg ht he hs') fun D σ H hr => ?_
      exact imp _ _ _ hr
    | _ => cases c
  | SetComp _ _ _ _ => cases hl
  | DictComp _ _ _ _ _ => cases hl
  | _ => cases hl
theorem call_len {f : Nat} {ds : List D} {h : Hh} {F : Fd} {ρ : List Addr} {H : Hp} {k : Kt} (e : P.fs[f]? = some F) (hr : Run g ρ H k (callF P n f ds h)) : ds.length = F.ar ∧ F.ar ≤ F.sz ∧ Run g ρ H k (called (ev P n F.body (ds ++ List.replicate (F.sz - F.ar) .una) h) h.length) := by
  unfold callF at hr
  rw [e] at hr
  dsimp only at hr
  unfold entry at hr
  cases z : (Nat.beq ds.length F.ar && Nat.ble F.ar F.sz) with
  | false => rw [z] at hr; exact (show False from hr).elim
  | true =>
    rw [z] at hr
    obtain ⟨z1, z2⟩ := bnd z
    exact ⟨Nat.eq_of_beq_eq_true z1, Nat.le_of_ble_eq_true z2, hr⟩
theorem entry_env {ρ : List Addr} {H : Hp} {ds : List D} {vs : List V} {N : List Str} {k : Nat} (r : Reps g ρ H ds vs) (hk : k = N.length - vs.length) : EnvR g ρ H (ds ++ List.replicate k .una) (L2.start N vs) := by
  subst hk
  unfold L2.start
  refine ⟨by simp [r.length], fun i d e u => ?_⟩
  by_cases hi : i < ds.length
  · rw [List.getElem?_append_left hi] at e
    obtain ⟨v, h1, h2⟩ := r.get e
    refine ⟨v, ?_, h2⟩
    rw [List.getElem?_append_left (by rw [List.length_map, ← r.length]; exact hi), List.getElem?_map, h1]
    rfl
  · rw [List.getElem?_append_right (by omega), List.getElem?_replicate] at e
    split at e
    · cases e; cases u
    · cases e
/-- behind a call -/
theorem back_run {ρ : List Addr} {h : Hh} {H : Hp} {Q : VK} {d : D} {h' : Hh} (sim : Sim g ρ h H) (hr : Run g ρ H (ke Q) (back h.length d h')) : ∀ (ρ' : List Addr) (H' : Hp) (v : V), Mono g ρ H ρ' H' → Sim g ρ' h' H' → Rep g ρ' H' d v → Q v H' := by
  intro ρ' H' v m s r
  have take : Mono g ρ H (ρ'.take h.length) H' := by
    refine ⟨m.h, fun i p e => ?_, fun p o e np => ?_⟩
    · have hl : i < h.length := by rw [← sim.len]; exact (List.getElem?_eq_some_iff.mp e).1
      rw [List.getElem?_take_of_lt hl]
      exact m.pf i p e
    · obtain ⟨q1, q2⟩ := m.ou p o e np
      exact ⟨q1, fun hm => q2 (List.mem_of_mem_take hm)⟩
  cases d with
  | ptr a =>
    obtain ⟨p, rfl, hp⟩ := r.ptr'
    have hr : Run g ρ H (ke Q) (match Nat.blt a h.length with
      | true => .ok (.ptr a) (h'.take h.length)
      | false => match h'[a]? with
        | some ds => match ds.any isPtr with
          | true => .ok (.ptr a) h'
          | false => .ok (.ptr h.length) (h'.take h.length ++ [ds])
        | none => .no) := hr
    cases e : Nat.blt a h.length with
    | true =>
      rw [e] at hr
      have hl : a < h.length := Nat.le_of_ble_eq_true e
      exact hr _ H' _ take (s.take _) (.ptr (by rw [List.getElem?_take_of_lt hl]; exact hp))
    | false =>
      rw [e] at hr
      have hl : h.length ≤ a := by
        cases Nat.lt_or_ge a h.length with
        | inl l =>
          have z : Nat.blt a h.length = true := Nat.ble_eq_true_of_le (show a + 1 ≤ h.length from l)
          rw [z] at e
          cases e
        | inr l => exact l
      obtain ⟨ds, vs, e1, e2, e3⟩ := sim_at s hp
      dsimp only at hr
      rw [e1] at hr
      dsimp only at hr
      cases e4 : ds.any isPtr with
      | true =>
        rw [e4] at hr
        exact hr ρ' H' _ m s (.ptr hp)
      | false =>
        rw [e4] at hr
        have np : p ∉ ρ'.take h.length := fun hm => by
          obtain ⟨i, hi⟩ := List.getElem?_of_mem hm
          have il : i < h.length := by
            have := (List.getElem?_eq_some_iff.mp hi).1
            rw [List.length_take] at this
            omega
          have hi' := take_pf ρ' h.length i p hi
          have l1 := List.getElem?_eq_some_iff.mp hi'
          have l2 := List.getElem?_eq_some_iff.mp hp
          have := (List.getElem_inj s.nd).mp (l1.2.trans l2.2.symm)
          omega
        obtain ⟨s2, e5⟩ := (s.take h.length).adopt e2 np (e3.toP e4).reps
        have hl2 : (h'.take h.length).length = h.length := by
          have := (List.getElem?_eq_some_iff.mp e1).1
          rw [List.length_take]
          omega
        rw [hl2] at e5
        refine hr _ H' _ ⟨take.h, fun i q z => ?_, fun q o z nq => ?_⟩ s2 (.ptr e5)
        · have := take.pf i q z
          rw [List.getElem?_append_left (List.getElem?_eq_some_iff.mp this).1]
          exact this
        · obtain ⟨q1, q2⟩ := m.ou q o z nq
          refine ⟨q1, fun hm => ?_⟩
          rcases List.mem_append.mp hm with hm | hm
          · exact q2 (List.mem_of_mem_take hm)
          · simp at hm
            subst hm
            exact q2 (List.mem_of_getElem? hp)
  | mtp ds => exact hr ρ' H' v m s r
  | una => exact (show False from hr).elim
  | _ => exact hr _ H' v take (s.take _) (by
      cases r with
      | pure r => exact .pure r)
theorem body_imp {F : Fd} {vs : List V} {ρ : List Addr} {h : Hh} {H : Hp} {Q : VK} {N : List Str} {sg : Sg} (sim : Sim g ρ h H) (er : EnvR g ρ H sg (L2.start N vs)) (hr : Run g ρ H (ke Q) (called (ev P n F.body sg h) h.length)) :
    tS P g n F.body { nx := fun _ H' => Q .non H', rt := Q } (L2.start N vs) H := by
  refine ⟨ρ, h, sg, sim, er, ?_⟩
  cases e : ev P n F.body sg h with
  | rt d h' =>
    rw [e] at hr
    exact back_run sim hr
  | nx sg' h' =>
    rw [e] at hr
    intro ρ' H' σ' m s er'
    refine hr (ρ'.take h.length) H' .non ⟨m.h, fun i p e => ?_, fun p o e np => ?_⟩ (s.take _) (.pure .non)
    · have hl : i < h.length := by rw [← sim.len]; exact (List.getElem?_eq_some_iff.mp e).1
      rw [List.getElem?_take_of_lt hl]
      exact m.pf i p e
    · obtain ⟨q1, q2⟩ := m.ou p o e np
      exact ⟨q1, fun hm => q2 (List.mem_of_mem_take hm)⟩
  | _ => rw [e] at hr; exact (show False from hr).elim
theorem m_F (hS : ∀ (N : List Str) (X : Cx) (sc : Scope), XOk P g M N X sc sc n → PassesOwn (model X.prog X.w) X.A X.env X.xe → ∀ (i : I) (ss : List Stmt), ckSs M N sc i ss = true → PSs X ss (tS P g n i)) (k : XOk P g M N X sc so (n + 1)) : FnsOk P g M X n := by
  intro f x ps hf
  obtain ⟨F, hF, N', qual, params, body, scope, fd, FD, S, ck, l1, l2, B⟩ := k.pg f x ps hf
  refine ⟨fd, FD.ok S (fun vs H Q E ⟨ρ, h, ds, sim, rr, hr⟩ => ?_) (fun cdv A outer s H vs Q E room ⟨ρ, h, ds, sim, rr, hr⟩ => ?_), B⟩
  · obtain ⟨z1, z2, z3⟩ := call_len hF hr
    rw [← rr.length, z1, l1]
  · obtain ⟨z1, z2, z3⟩ := call_len hF hr
    refine ⟨_, hS N' (cxOf CX0 X.prog X.w X.K X.mg X.base N' qual scope (g.fa f) cdv A outer s H E) scope ⟨k.hK, rfl, rfl, S.nd, rfl, room, k.mg, fun x e => e, fun x e => ⟨e, rfl⟩, S.kind, k.pg⟩ (passes_of (K := fun e s'' => CX0 outer H s E e s'') rfl) F.body body ck, body_imp sim (entry_env rr ?_) z3⟩
    rw [l2, ← rr.length, z1]
theorem s_dct (k : XOk P g M N X sc so (n + 1)) {e : Expr} (c : ckE M N sc .dct e = true) : PE X e (tE P g (n + 1) .dct) := by
  unfold ckE at c
  split at c
  · split at c
    · refine PE.imp pe_dnewK fun σ H Q hr => ?_
      obtain ⟨ρ, h, sg, sim, er, hr⟩ := hr
      exact fun p np => hr ρ _ (.ref p) (Mono.new np) (sim.new np) (.pure (.emp upd_same))
    · cases c
  · cases c
theorem m_E (ih : Main P g M n) (k : XOk P g M N X sc so (n + 1)) (i : I) (e : Expr) (c : ckE M N sc i e = true) : PE X e (tE P g (n + 1) i) := by
  cases i with
  | var i => exact s_var k c
  | cst d => exact s_cst k c
  | glb j => exact s_glb k c
  | gdx j i => exact s_gdx ih k c
  | tup a => exact s_tup ih k c
  | lst a => exact s_lst ih k c
  | dct => exact s_dct k c
  | bin o a b => exact s_bin ih k c
  | neg a => exact s_neg ih k c
  | cmp o a b => exact s_cmp ih k c
  | chn o p a b c' => exact s_chn ih k c
  | and a b => exact s_and ih k c
  | or a b => exact s_or ih k c
  | not a => exact s_not ih k c
  | ife t a b => exact s_ife ih k c
  | ix a i => exact s_ix ih k c
  | sl a lo hi => exact s_sl ih k c
  | cal f a => exact s_cal ih k c
  | blt b a => exact s_blt ih k c
  | isi b a => exact s_isi ih k c
  | app o v => exact s_app ih k c
  | ext o v => exact s_ext ih k c
  | pop o => exact s_pop ih k c
  | lc tg it ifs v own => exact s_lc ih k c
  | _ => cases c
theorem main0 (hpg : True) : Main P g M 0 where
  mE := fun N X sc so k i e c => ⟨fun pins s σ H Q I ⟨ρ, h, sg, sim, er, hr⟩ => (show False from hr).elim⟩
  mT := fun N X sc so k i e c => ⟨fun pins s σ H Q I ⟨ρ, h, sg, sim, er, hr⟩ => (show False from hr).elim⟩
  mA := fun N X sc so k i e c => ⟨fun pos pins s σ H Q I ⟨ρ, h, sg, sim, er, hr⟩ => (show False from hr).elim⟩
  mI := fun N X sc so k i e t c c2 => ⟨fun pins s σ H Q I ⟨ρ, h, sg, sim, er, hr⟩ => (show False from hr).elim⟩
  mAnd := fun N X sc so k i es pos c => ⟨fun pins s σ H Q I ⟨ρ, h, sg, sim, er, hr⟩ => (show False from hr).elim⟩
  mOr := fun N X sc so k i es pos c => ⟨fun pins s σ H Q I ⟨ρ, h, sg, sim, er, hr⟩ => (show False from hr).elim⟩
  mTAnd := fun N X sc so k i es pos c => ⟨fun wh pins s σ H Q I ⟨ρ, h, sg, sim, er, hr⟩ => (show False from hr).elim⟩
  mTOr := fun N X sc so k i es pos c => ⟨fun wh pins s σ H Q I ⟨ρ, h, sg, sim, er, hr⟩ => (show False from hr).elim⟩
  mO := fun N X sc so k i o c => ⟨fun pins s σ H Q I ⟨ρ, h, sg, sim, er, hr⟩ => (show False from hr).elim⟩
  mL := fun N X sc k i e y py pos j c hl hj => ⟨fun pins s σ H D I ⟨ρ, h, sg, sim, er, hr⟩ => (show False from hr).elim⟩
  mS := fun N X sc k hp i s c => ⟨fun pins s σ H D I ⟨ρ, h, sg, sim, er, hr⟩ => (show False from hr).elim⟩
  mSs := fun N X sc k hp i ss c => ⟨fun pins s σ H D I ⟨ρ, h, sg, sim, er, hr⟩ => (show False from hr).elim⟩
  mF := fun N X sc so k => m_F (fun N X sc k hp i ss c => ⟨fun pins s σ H D I ⟨ρ, h, sg, sim, er, hr⟩ => (show False from hr).elim⟩) k
theorem main : ∀ n, Main P g M n
  | 0 => main0 trivial
  | n + 1 => by
    have ih := main n
    have hS := fun (N : List Str) (X : Cx) (sc : Scope) (k : XOk P g M N X sc sc (n + 1)) hp i ss c => m_Ss (i := i) (ss := ss) ih k hp c
    exact {
      mE := fun N X sc so k i e c => m_E ih k i e c
      mT := fun N X sc so k i e c => m_T ih k i e c
      mA := fun N X sc so k i e c => m_A ih k i e c
      mI := fun N X sc so k i e t c c2 => m_I ih k i e t c c2
      mAnd := fun N X sc so k i es pos c => m_And ih k i es pos c
      mOr := fun N X sc so k i es pos c => m_Or ih k i es pos c
      mTAnd := fun N X sc so k i es pos c => m_TAnd ih k i es pos c
      mTOr := fun N X sc so k i es pos c => m_TOr ih k i es pos c
      mO := fun N X sc so k i o c => m_O ih k i o c
      mL := fun N X sc k i e y py pos j c hl hj => m_L ih k i e y py pos j c hl hj
      mS := fun N X sc k hp i s c => m_S ih k hp i s c
      mSs := hS
      mF := fun N X sc so k => m_F hS k }
end
end Ev
-- EvW
namespace Ev
open PySem PySem.Spec PyProof.Rows L2
theorem zip_look : ∀ {ps : List Str} {us : List Value} {x : Str}, us.length = ps.length → x ∈ ps → ∃ u, (ps.zip us).lookup x = some u
  | p :: ps, u :: us, x, hl, hx => by
    rw [List.zip_cons_cons, List.lookup_cons]
    cases h : x == p with
    | true => exact ⟨u, rfl⟩
    | false =>
      have : x ∈ ps := by
        rcases List.mem_cons.mp hx with e | e
        · subst e; simp at h
        · exact e
      exact zip_look (by simpa using hl) this
  | [], _, _, _, hx => by cases hx
  | _ :: _, [], _, hl, _ => by cases hl
theorem fm_congr {α β : Type} {f g : α → Option β} : ∀ {l : List α}, (∀ x ∈ l, f x = g x) → l.filterMap f = l.filterMap g
  | [], _ => rfl
  | a :: l, h => by
    rw [List.filterMap_cons, List.filterMap_cons, h a (List.mem_cons_self ..), fm_congr fun x hx => h x (List.mem_cons_of_mem _ hx)]
theorem zip_back : ∀ {ps : List Str} {us : List Value}, us.length = ps.length → ps.Nodup → (ps.filterMap fun n => ((ps.zip us).lookup n).map (n, ·)) = ps.zip us
  | [], us, hl, _ => by cases us <;> rfl
  | p :: ps, [], hl, _ => by cases hl
  | p :: ps, u :: us, hl, nd => by
    obtain ⟨n1, n2⟩ := List.nodup_cons.mp nd
    have ih := zip_back (ps := ps) (us := us) (by simpa using hl) n2
    have e : ((p :: ps).filterMap fun n => (((p :: ps).zip (u :: us)).lookup n).map (n, ·)) = (p, u) :: (ps.filterMap fun n => (((p :: ps).zip (u :: us)).lookup n).map (n, ·)) := by
      rw [List.filterMap_cons, List.zip_cons_cons, List.lookup_cons, beq_self_eq_true]
      rfl
    rw [e]
    have e2 : (ps.filterMap fun n => (((p :: ps).zip (u :: us)).lookup n).map (n, ·)) = ps.filterMap fun n => ((ps.zip us).lookup n).map (n, ·) := fm_congr fun x hx => by
      have : (x == p) = false := by
        cases h : x == p with
        | false => rfl
        | true => exact absurd (by rw [← beq_iff_eq.mp h]; exact hx) n1
      rw [List.zip_cons_cons, List.lookup_cons, this]
    rw [e2, ih]
    rfl
def argsB (ps : List Str) (p : Arguments) : Bool := match p with
  | ⟨[], as, none, [], [], none, []⟩ => decide (as.map (·.arg) = ps) && decide ps.Nodup
  | _ => false
theorem binds_ok {x qual : Str} {params : Arguments} {body : List Stmt} {scope : Scope} {ps : List Str} (h : argsB ps params = true) (kV doc pm : Value) (an : Option Addr) (cdv ct : Value) (us : List Value) (hl : us.length = ps.length) :
    bindArgs (PySem.W.fnOf x qual params body scope .none kV doc pm an cdv ct) ⟨us, []⟩ = pure (ps.zip us) := by
  unfold argsB at h
  split at h
  · rename_i as
    obtain ⟨h1, h2⟩ := Bool.and_eq_true_iff.mp h
    have h1 := of_decide_eq_true h1
    have h2 := of_decide_eq_true h2
    have e1 : (PySem.W.fnOf x qual ⟨[], as, none, [], [], none, []⟩ body scope .none kV doc pm an cdv ct).params = ⟨[], as, none, [], [], none, []⟩ := rfl
    have e2 : (PySem.W.fnOf x qual ⟨[], as, none, [], [], none, []⟩ body scope .none kV doc pm an cdv ct).defaults = .none := rfl
    have mis : ((ps.take ps.length).filter fun n => ((ps.zip us).lookup n).isNone) = [] := by
      rw [List.take_length]
      refine List.filter_eq_nil_iff.mpr fun a ha => ?_
      obtain ⟨u, hu⟩ := zip_look hl ha
      rw [hu]
      simp
    have bk := zip_back hl h2
    have ng : ¬ (us.length > ps.length ∧ True) := by omega
    unfold bindArgs
    simp only [e1, e2, List.map_nil, List.nil_append, h1, List.forIn_nil, pure_bind, List.append_nil]
    have sq : (seqItems? .none : Sem (Option (Array Value))) = pure none := rfl
    rw [sq]
    simp only [pure_bind, Option.getD_none, List.drop_nil, List.length_nil, Nat.sub_zero, mis, List.isEmpty_nil, List.zip_nil_right, List.forIn_nil, bk, hl, Nat.lt_irrefl, gt_iff_lt, decide_false, Bool.false_and, Bool.false_eq_true, if_false, Bool.not_true, Nat.zero_sub]
  · cases h
/-! a law's table: its defs, names, constants -/
structure DefR where
  name : Str
  ps : List Str
  N : List Str
  st : Stmt
  F : Fd
def DefR.dd (r : DefR) : He.DefD := ⟨(r.name, none), r.name, r.name, defArgs r.st, defBody r.st, defScope r.st, [], []⟩
def scopeB (N ps : List Str) (sc : Scope) : Bool := (match sc.kind with | .function => true | _ => false) && !sc.isCoroutine && !sc.isGenerator && decide N.Nodup && decide (N.take ps.length = ps) &&
  (ps.all fun x => locC sc x) && sc.names.all fun y => !(match y.2 with | .free => true | _ => false)
theorem scopeB_ok {N ps : List Str} {sc : Scope} (h : scopeB N ps sc = true) : FnScope N ps sc := by
  unfold scopeB at h
  obtain ⟨h, h7⟩ := bnd h
  obtain ⟨h, h6⟩ := bnd h
  obtain ⟨h, h5⟩ := bnd h
  obtain ⟨h, h4⟩ := bnd h
  obtain ⟨h, h3⟩ := bnd h
  obtain ⟨h1, h2⟩ := bnd h
  refine ⟨?_, notb h2, notb h3, of_decide_eq_true h4, of_decide_eq_true h5, fun x hx => ?_, fun y hy e => ?_⟩
  · split at h1
    · assumption
    · cases h1
  · have z := List.all_eq_true.mp h6 x hx
    unfold locC at z
    split at z
    · exact .inl (by assumption)
    · exact .inr (by assumption)
    · cases z
  · have z := List.all_eq_true.mp h7 y hy
    rw [e] at z
    cases z
structure Lw where
  rs : List DefR
  free : List Str
  cs : List (Str × D)
  ds : List (Str × List (Int × D))
def Lw.P (L : Lw) : Pg := ⟨L.rs.map (·.F), L.cs.map (·.2), L.ds.map (·.2)⟩
def Lw.M (L : Lw) : Nm := ⟨L.rs.map fun r => (r.name, r.ps), L.cs.map (·.1), L.ds.map (·.1), L.free⟩
def Lw.g (L : Lw) (K : PySem.W.Frag) : G := ⟨K, fun f => He.ga K ((L.rs.map (·.name)).getD f "")⟩
def Lw.fa (L : Lw) : List He.Fa := (L.rs.map fun r => .glo r.name) ++ L.free.map .free
def Lw.fn (L : Lw) : List He.DefD := L.rs.map DefR.dd
def okR (M : Nm) (r : DefR) : Bool := scopeB r.N r.ps (defScope r.st) && ckSs M r.N (defScope r.st) r.F.body (defBody r.st) && decide (r.ps.length = r.F.ar) && decide (r.N.length = r.F.sz) && argsB r.ps (defArgs r.st)
/-! constants in the written part -/
mutual
def conB (K : PySem.W.Frag) : D → Value → Bool
  | .non, .none => true
  | .bl b, .bool c => b == c
  | .int i, .int j _ => decide (i = j)
  | .str x, .str y _ => decide (x = y)
  | .tup ds, .ref a => (match K.lookup a with
    | some ⟨.type c, _, .seq its _, _⟩ => decide (c = "tuple") && decide (its.size ≤ sizeLine) && conBs K ds its.toList
    | _ => false)
  | _, _ => false
def conBs (K : PySem.W.Frag) : List D → List Value → Bool
  | [], [] => true
  | d :: ds, u :: us => conB K d u && conBs K ds us
  | _, _ => false
end
mutual
theorem conB_ok {g : G} : ∀ {d : D} {u : Value}, conB g.K d u = true → ∃ v, RelV v u ∧ ∀ H, RepP g H d v
  | .non, u, h => by
    cases u <;> first | (cases h; done) | exact ⟨.non, rfl, fun _ => .non⟩
  | .bl b, u, h => by
    cases u with
    | bool c =>
      have : b = c := by simpa using (show (b == c) = true from h)
      subst this
      exact ⟨.bl b, rfl, fun _ => .bl b⟩
    | _ => cases h
  | .int i, u, h => by
    cases u with
    | int j t =>
      obtain rfl := of_decide_eq_true (show decide (i = j) = true from h)
      exact ⟨.int i, ⟨t, rfl⟩, fun _ => .int i⟩
    | _ => cases h
  | .str i, u, h => by
    cases u with
    | str j t =>
      obtain rfl := of_decide_eq_true (show decide (i = j) = true from h)
      exact ⟨.str i, ⟨t, rfl⟩, fun _ => .str i⟩
    | _ => cases h
  | .tup ds, u, h => by
    cases u with
    | ref a =>
      have h : (match g.K.lookup a with
        | some ⟨.type c, _, .seq its _, _⟩ => decide (c = "tuple") && decide (its.size ≤ sizeLine) && conBs g.K ds its.toList
        | _ => false) = true := h
      split at h
      · rename_i c od its n sl q
        obtain ⟨h, h3⟩ := bnd h
        obtain ⟨h1, h2⟩ := bnd h
        obtain ⟨vs, r1, r2⟩ := conBs_ok h3
        exact ⟨.ref a, rfl, fun H => .tup (.inr ⟨_, its, n, q, congrArg Value.type (of_decide_eq_true h1), rfl, of_decide_eq_true h2, r1⟩) (r2 H)⟩
      · cases h
    | _ => cases h
  | .una, u, h => by cases u <;> cases h
  | .ty _, u, h => by cases u <;> cases h
  | .frl _, u, h => by cases u <;> cases h
  | .fn _, u, h => by cases u <;> cases h
  | .ptr _, u, h => by cases u <;> cases h
  | .mtp _, u, h => by cases u <;> cases h
theorem conBs_ok {g : G} : ∀ {ds : List D} {us : List Value}, conBs g.K ds us = true → ∃ vs, Vals vs us ∧ ∀ H, RepPs g H ds vs
  | [], [], _ => ⟨[], .nil, fun _ => .nil⟩
  | [], _ :: _, h => by cases h
  | _ :: _, [], h => by cases h
  | d :: ds, u :: us, h => by
    obtain ⟨h1, h2⟩ := bnd (show (conB g.K d u && conBs g.K ds us) = true from h)
    obtain ⟨v, r1, r2⟩ := conB_ok h1
    obtain ⟨vs, s1, s2⟩ := conBs_ok h2
    exact ⟨v :: vs, .cons r1 s1, fun H => .cons (r2 H) (s2 H)⟩
end
def dicB (K : PySem.W.Frag) (ks : List (Int × D)) (u : Value) : Bool := match u with
  | .ref a => (match K.lookup a with
    | some ⟨.type c, none, .dict es _, sl⟩ => decide (c = "dict") && decide (sl.toList = []) && (es.toList.all fun e => match e.key with | .int j _ => decide (e.hash = hashInt j) | _ => false) &&
      ks.all fun q => match findBy Value.isInt es q.1 with
        | some w => conB K q.2 w
        | none => false
    | _ => false)
  | _ => false
theorem lookI_mem {i : Int} {d : D} : ∀ {ks : List (Int × D)}, lookI i ks = some d → (i, d) ∈ ks
  | (j, e) :: r, h => by
    unfold lookI at h
    cases c : decide (j = i) with
    | true =>
      rw [c] at h
      cases h
      rw [of_decide_eq_true c]
      exact List.mem_cons_self ..
    | false =>
      rw [c] at h
      exact List.mem_cons_of_mem _ (lookI_mem h)
  | [], h => by cases h
theorem dicB_ok {g : G} {ks : List (Int × D)} {u : Value} (h : dicB g.K ks u = true) : ∃ a, u = .ref a ∧ ∀ i d, lookI i ks = some d → ∃ v, KI g.K a i v ∧ ∀ H, RepP g H d v := by
  cases u with
  | ref a =>
    refine ⟨a, rfl, fun i d hd => ?_⟩
    have h : (match g.K.lookup a with
      | some ⟨.type c, none, .dict es _, sl⟩ => decide (c = "dict") && decide (sl.toList = []) && (es.toList.all fun e => match e.key with | .int j _ => decide (e.hash = hashInt j) | _ => false) &&
        ks.all fun q => match findBy Value.isInt es q.1 with
          | some w => conB g.K q.2 w
          | none => false
      | _ => false) = true := h
    split at h
    · rename_i c es n sl q
      obtain ⟨h, h4⟩ := bnd h
      obtain ⟨h, h3⟩ := bnd h
      obtain ⟨h1, h2⟩ := bnd h
      obtain rfl := of_decide_eq_true h1
      have h2 : sl = #[] := by
        have := of_decide_eq_true h2
        cases sl
        simp at this
        subst this
        rfl
      subst h2
      have z := List.all_eq_true.mp h4 (i, d) (lookI_mem hd)
      dsimp only at z
      cases e : findBy Value.isInt es i with
      | none => rw [e] at z; cases z
      | some w =>
        rw [e] at z
        obtain ⟨v, r1, r2⟩ := conB_ok z
        refine ⟨v, ⟨es, n, w, q, fun en hen => ?_, e, r1⟩, r2⟩
        have y := List.all_eq_true.mp h3 en hen
        cases ek : en.key with
        | int j t => rw [ek] at y; exact ⟨j, t, rfl, of_decide_eq_true y⟩
        | _ => rw [ek] at y; cases y
    · cases h
  | _ => cases h
def Lw.cb (L : Lw) (K : PySem.W.Frag) : Bool := (L.cs.all fun q => match PySem.W.nsIn K mainGlobals q.1 with
    | some (some u) => conB K q.2 u
    | _ => false) && L.ds.all fun q => match PySem.W.nsIn K mainGlobals q.1 with
    | some (some u) => dicB K q.2 u
    | _ => false
/-! the hook -/
abbrev AlE : Type := He.AlD × Bool
def obsE (fa : List He.Fa) (fn : List He.DefD) (cb : PySem.W.Frag → Bool) (K : PySem.W.Frag) : AlE := (He.obsD fa fn K, cb K)
def valE (fn : List He.DefD) : AlE := (He.valD fn, true)
def obsEG (n : Nat) (fa : List He.Fa) (fn : List He.DefD) (cb : PySem.W.Frag → Bool) (g : Addr → Option Obj) : AlE := obsE fa fn cb (He.frG g (He.asD g n))
def SaysE (fa : List He.Fa) (fn : List He.DefD) (cb : PySem.W.Frag → Bool) (K : PySem.W.Frag) : Prop := obsE fa fn cb K = valE fn
def hookE (n : Nat) (fa : List He.Fa) (fn : List He.DefD) (cb : PySem.W.Frag → Bool) : PySem.W.Hook where
  α := AlE
  obs := fun s => obsEG n fa fn cb s.heap.get?
  val := fun _ => valE fn
  says := fun _ h => ∃ K : PySem.W.Frag, K.In h ∧ SaysE fa fn cb K
  of := fun _ _ e => ⟨_, He.frG_in, e⟩
  keeps := fun _ _ _ ⟨K, hK, c⟩ k => ⟨K, PySem.W.Frag.In.keeps hK k, c⟩
theorem obsEG_eq {n : Nat} {fa : List He.Fa} {fn : List He.DefD} {cb : PySem.W.Frag → Bool} {g : Addr → Option Obj} {s : Shared} (h : ∀ a, g a = s.heap.get? a) : obsEG n fa fn cb g = (hookE n fa fn cb).obs s := by
  have e : g = s.heap.get? := funext h
  rw [e]
  rfl
section
variable {L : Lw} {K : PySem.W.Frag} {h : Heap} {mg : Str → Option Value}
theorem says_d {fa : List He.Fa} {fn : List He.DefD} {cb : PySem.W.Frag → Bool} (c : SaysE fa fn cb K) : He.SaysD fa fn K ∧ cb K = true :=
  ⟨congrArg (fun z : AlE => z.1) c, congrArg (fun z : AlE => z.2) c⟩
theorem Lw.at_ {f : Nat} {x : Str} {ps : List Str} (e : L.M.fs[f]? = some (x, ps)) : ∃ r, L.rs[f]? = some r ∧ r.name = x ∧ r.ps = ps := by
  have e : (L.rs.map fun r => (r.name, r.ps))[f]? = some (x, ps) := e
  rw [List.getElem?_map] at e
  cases q : L.rs[f]? with
  | none => rw [q] at e; cases e
  | some r => rw [q] at e; cases e; exact ⟨r, rfl, rfl, rfl⟩
theorem Lw.fa_ {f : Nat} {r : DefR} (e : L.rs[f]? = some r) : (L.g K).fa f = He.ga K r.name := by
  show He.ga K ((L.rs.map (·.name)).getD f "") = _
  rw [List.getD_eq_getElem?_getD, List.getElem?_map, e]
  rfl
theorem Lw.fund (c : He.SaysD L.fa L.fn K) {f : Nat} {r : DefR} (e : L.rs[f]? = some r) : ∃ fd, FunD K r.name r.name (defArgs r.st) (defBody r.st) (defScope r.st) [] [] ((L.g K).fa f) fd := by
  have e2 : L.fn[f]? = some r.dd := by
    show (L.rs.map DefR.dd)[f]? = _
    rw [List.getElem?_map, e]
    rfl
  have z := c.def_ f e2
  rw [Lw.fa_ e]
  exact z
theorem Lw.pg (c : He.SaysD L.fa L.fn K) (ok : (L.rs.all fun r => okR L.M r) = true) : PgOk L.P (L.g K) L.M K := by
  intro f x ps hf
  obtain ⟨r, e, rfl, rfl⟩ := Lw.at_ hf
  have eF : L.P.fs[f]? = some r.F := by
    show (L.rs.map (·.F))[f]? = _
    rw [List.getElem?_map, e]
    rfl
  have o := List.all_eq_true.mp ok r (List.mem_of_getElem? e)
  unfold okR at o
  obtain ⟨o, o5⟩ := bnd o
  obtain ⟨o, o4⟩ := bnd o
  obtain ⟨o, o3⟩ := bnd o
  obtain ⟨o1, o2⟩ := bnd o
  obtain ⟨fd, FD⟩ := Lw.fund c e
  exact ⟨r.F, eF, r.N, r.name, defArgs r.st, defBody r.st, defScope r.st, fd, FD, scopeB_ok o1, o2, of_decide_eq_true o3, of_decide_eq_true o4, FD.bindsN fun kV doc pm an cdv ct us hl => binds_ok o5 kV doc pm an cdv ct us hl⟩
theorem Lw.mgo (X : K.In h) (G : h.Ns mainGlobals mg) (c : He.SaysD L.fa L.fn K) (b : L.cb K = true) : MgOk L.P (L.g K) L.M mg := by
  obtain ⟨b1, b2⟩ := bnd b
  have all : ∀ f ∈ L.fa, f.ok K = true := fun f hf => by
    obtain ⟨i, hi⟩ := List.getElem?_of_mem hf
    exact c.fact i hi
  refine ⟨fun x hx => ?_, fun f x ps hf => ?_, fun k x d hk hd => ?_, fun k x ks hk hd => ?_⟩
  · exact He.free_ok X G (all (.free x) (List.mem_append_right _ (List.mem_map.mpr ⟨x, hx, rfl⟩)))
  · obtain ⟨r, e, rfl, rfl⟩ := Lw.at_ hf
    obtain ⟨fd, FD⟩ := Lw.fund c e
    refine ⟨?_, FD.kp⟩
    rw [Lw.fa_ e]
    exact He.glo_ok X G (all (.glo r.name) (List.mem_append_left _ (List.mem_map.mpr ⟨r, List.mem_of_getElem? e, rfl⟩)))
  · have hk : (L.cs.map (·.1))[k]? = some x := hk
    have hd : (L.cs.map (·.2))[k]? = some d := hd
    rw [List.getElem?_map] at hk hd
    cases q : L.cs[k]? with
    | none => rw [q] at hk; cases hk
    | some p =>
      rw [q] at hk hd
      cases hk
      cases hd
      have z := List.all_eq_true.mp b1 p (List.mem_of_getElem? q)
      cases e : PySem.W.nsIn K mainGlobals p.1 with
      | none => rw [e] at z; cases z
      | some o =>
        cases o with
        | none => rw [e] at z; cases z
        | some u =>
          rw [e] at z
          obtain ⟨v, r1, r2⟩ := conB_ok (g := L.g K) z
          exact ⟨u, v, PySem.W.mg_of X G e, r1, r2⟩
  · have hk : (L.ds.map (·.1))[k]? = some x := hk
    have hd : (L.ds.map (·.2))[k]? = some ks := hd
    rw [List.getElem?_map] at hk hd
    cases q : L.ds[k]? with
    | none => rw [q] at hk; cases hk
    | some p =>
      rw [q] at hk hd
      cases hk
      cases hd
      have z := List.all_eq_true.mp b2 p (List.mem_of_getElem? q)
      cases e : PySem.W.nsIn K mainGlobals p.1 with
      | none => rw [e] at z; cases z
      | some o =>
        cases o with
        | none => rw [e] at z; cases z
        | some u =>
          rw [e] at z
          obtain ⟨a, rfl, r2⟩ := dicB_ok (g := L.g K) z
          exact ⟨a, PySem.W.mg_of X G e, r2⟩
/-- the law's def -/
theorem Lw.law (X : K.In h) (G : h.Ns mainGlobals mg) (c : SaysE L.fa L.fn L.cb K) (ok : (L.rs.all fun r => okR L.M r) = true) {f : Nat} {r : DefR} (e : L.rs[f]? = some r) {x : Str} (ep : r.ps = [x]) {fa : Addr} (ea : mg r.name = some (.ref fa)) (n : Nat) :
    ∃ fd : FuncData, (∀ (s : Shared) (v : Value), BindsTo s fd ⟨[v], []⟩ [(x, v)]) ∧ ∀ (prog : Program) (w : World) (base : Heap), FnOk prog w K mg base CX0 (n + 1) fa fd [x] (spEv L.P (L.g K) n f) := by
  obtain ⟨c1, c2⟩ := says_d c
  have pg := Lw.pg c1 ok
  have mgo := Lw.mgo X G c1 c2
  have hf : L.M.fs[f]? = some (r.name, r.ps) := by
    show (L.rs.map fun r => (r.name, r.ps))[f]? = _
    rw [List.getElem?_map, e]
    rfl
  have o := List.all_eq_true.mp ok r (List.mem_of_getElem? e)
  unfold okR at o
  obtain ⟨o, o5⟩ := bnd o
  obtain ⟨o, o4⟩ := bnd o
  obtain ⟨o, o3⟩ := bnd o
  obtain ⟨o1, o2⟩ := bnd o
  obtain ⟨fd, FD⟩ := Lw.fund c1 e
  have eF : L.P.fs[f]? = some r.F := by
    show (L.rs.map (·.F))[f]? = _
    rw [List.getElem?_map, e]
    rfl
  have ef : (L.g K).fa f = fa := by
    have z := (mgo.fn f r.name r.ps hf).1
    rw [ea] at z
    cases z
    rfl
  have S := scopeB_ok o1
  have l1 := of_decide_eq_true o3
  have l2 := of_decide_eq_true o4
  rw [ep] at S l1 o5
  rw [← ef]
  refine ⟨fd, fun s v => ?_, fun prog w base => FD.ok S (fun vs H Q E ⟨ρ, hh, ds, sim, rr, hr⟩ => ?_) (fun cdv A outer s H vs Q E room ⟨ρ, hh, ds, sim, rr, hr⟩ => ?_)⟩
  · exact FD.bindsA (ps := [x]) (fun kV doc pm an cdv ct us hl => binds_ok o5 kV doc pm an cdv ct us hl) s [v] rfl
  · obtain ⟨z1, z2, z3⟩ := call_len eF hr
    rw [← rr.length, z1, ← l1]
  · obtain ⟨z1, z2, z3⟩ := call_len eF hr
    refine ⟨_, (main n).mSs r.N (cxOf CX0 prog w K mg base r.N r.name (defScope r.st) ((L.g K).fa f) cdv A outer s H E) (defScope r.st) ⟨rfl, rfl, rfl, S.nd, rfl, room, mgo, fun x e => e, fun x e => ⟨e, rfl⟩, S.kind, pg⟩ (passes_of (K := fun e s'' => CX0 outer H s E e s'') rfl) r.F.body (defBody r.st) o2, body_imp sim (entry_env rr ?_) z3⟩
    rw [l2, ← rr.length, z1]
/-- what is left: the law's call over a frozen list gives True -/
theorem Lw.says (n f : Nat) {H : Hp} {a : Addr} {ns : List Int} {E : XK} (hO : Only H) (hS : SqL K H a (ns.map V.int)) {h' : Hh} (e : callF L.P n f [.frl (ns.map D.int)] [] = .ok (.bl true) h') : spEv L.P (L.g K) n f [.ref a] H (fun v _ => v = .bl true) E := by
  have fr : FrL K H a (ns.map V.int) := by
    rcases hS with hS | hS
    · rcases hO a with z | ⟨o, xs, z⟩
      · rcases hS with q | ⟨o, q⟩
        · rw [z] at q; cases q
        · rw [z] at q; cases q
      · rcases hS with q | ⟨o, q⟩
        · rw [z] at q; cases q
        · exact .inl ⟨o, q⟩
    · exact .inr hS
  have rs : ∀ ns : List Int, RepPs (L.g K) H (ns.map D.int) (ns.map V.int) := fun ns => by
    induction ns with
    | nil => exact .nil
    | cons i ns ih => exact .cons (.int i) ih
  refine ⟨[], [], _, ⟨rfl, List.nodup_nil, fun a ds e => by cases e⟩, .cons (.pure (.frl fr (rs ns))) .nil, ?_⟩
  rw [e]
  exact fun ρ' H' v m s r => r.bl
end
end Ev
-- EvX
/-! EvX: the evaluator's rows as rewriting rules -/
namespace Ev.Rx
open PySem
@[simp] theorem on_ok (d : D) (h : Hh) (f : D → Hh → R) : (R.ok d h).on f = f d h := rfl
@[simp] theorem ons_oks (d : List D) (h : Hh) (f : List D → Hh → R) : (R.oks d h).ons f = f d h := rfl
@[simp] theorem onx_nx (σ : Sg) (h : Hh) (f : Sg → Hh → R) : (R.nx σ h).onx f = f σ h := rfl
@[simp] theorem onx_rt (d : D) (h : Hh) (f : Sg → Hh → R) : (R.rt d h).onx f = .rt d h := rfl
@[simp] theorem onx_bk (σ : Sg) (h : Hh) (f : Sg → Hh → R) : (R.bk σ h).onx f = .bk σ h := rfl
@[simp] theorem onx_ct (σ : Sg) (h : Hh) (f : Sg → Hh → R) : (R.ct σ h).onx f = .ct σ h := rfl
section
variable (P : Pg)
@[simp] theorem ev_var (n : Nat) (i : Nat) (σ : Sg) (h : Hh) : ev P (n + 1) (.var i) σ h = getV σ i h := rfl
@[simp] theorem ev_cst (n : Nat) (d : D) (σ : Sg) (h : Hh) : ev P (n + 1) (.cst d) σ h = .ok d h := rfl
@[simp] theorem ev_dct (n : Nat)  (σ : Sg) (h : Hh) : ev P (n + 1) (.dct) σ h = .ok .emp h := rfl
@[simp] theorem ev_glb (n : Nat) (k : Nat) (σ : Sg) (h : Hh) : ev P (n + 1) (.glb k) σ h = (match P.cs[k]? with | some d => .ok d h | none => .no) := rfl
@[simp] theorem ev_anil (n : Nat)  (σ : Sg) (h : Hh) : ev P (n + 1) (.anil) σ h = .oks [] h := rfl
@[simp] theorem ev_one (n : Nat) (a : I) (σ : Sg) (h : Hh) : ev P (n + 1) (.one a) σ h = ev P n a σ h := rfl
@[simp] theorem ev_tv (n : Nat) (a : I) (σ : Sg) (h : Hh) : ev P (n + 1) (.tv a) σ h = ev P n a σ h := rfl
@[simp] theorem ev_pno (n : Nat)  (σ : Sg) (h : Hh) : ev P (n + 1) (.pno) σ h = .ok .non h := rfl
@[simp] theorem ev_retN (n : Nat)  (σ : Sg) (h : Hh) : ev P (n + 1) (.sRetN) σ h = .rt .non h := rfl
@[simp] theorem ev_pass (n : Nat)  (σ : Sg) (h : Hh) : ev P (n + 1) (.sPass) σ h = .nx σ h := rfl
@[simp] theorem ev_brk (n : Nat)  (σ : Sg) (h : Hh) : ev P (n + 1) (.sBrk) σ h = .bk σ h := rfl
@[simp] theorem ev_cnt (n : Nat)  (σ : Sg) (h : Hh) : ev P (n + 1) (.sCnt) σ h = .ct σ h := rfl
@[simp] theorem ev_nil (n : Nat)  (σ : Sg) (h : Hh) : ev P (n + 1) (.sNil) σ h = .nx σ h := rfl
@[simp] theorem ev_never (n : Nat)  (σ : Sg) (h : Hh) : ev P (n + 1) (.sNever) σ h = .no := rfl
def gdxK (P : Pg) (k : Nat) (x : D) (h1 : Hh) : R := match x with
  | .int i => match P.ds[k]? with
    | some ks => match lookI i ks with
      | some d => .ok d h1
      | none => .no
    | none => .no
  | _ => .no
def tupK (ds : List D) (h : Hh) : R := match Nat.ble ds.length line with
  | true => .ok (mkT ds) h
  | false => .no
def lstK (ds : List D) (h : Hh) : R := match Nat.ble ds.length line with
  | true => newL h ds
  | false => .no
def negK (x : D) (h : Hh) : R := match x with
  | .int i => .ok (.int (-i)) h
  | _ => .no
def poK (x : D) (h : Hh) : R := match x with
  | .int i => .ok (.int i) h
  | _ => .no
def appK (x y : D) (h2 : Hh) : R := match x with
  | .ptr a => match h2[a]? with
    | some ds => match Nat.blt ds.length line && !isPtr y with
      | true => .ok .non (h2.set a (ds ++ [y]))
      | false => .no
    | none => .no
  | _ => .no
def popK (x : D) (h1 : Hh) : R := match x with
  | .ptr a => match h1[a]? with
    | some ds => match ds.getLast? with
      | some d => .ok d (h1.set a ds.dropLast)
      | none => .no
    | none => .no
  | _ => .no
def rngK (ds : List D) (h1 : Hh) : R := match ds with
  | [.int j] => match Nat.blt j.natAbs (2 ^ 60) with
    | true => .osr (.rg 0 1 j.toNat) h1
    | false => .no
  | [.int i, .int j] => match Nat.blt i.natAbs (2 ^ 60) && Nat.blt j.natAbs (2 ^ 60) with
    | true => .osr (.rg i 1 (j - i).toNat) h1
    | false => .no
  | [.int i, .int j, .int c] => match Nat.blt i.natAbs (2 ^ 60) && Nat.blt j.natAbs (2 ^ 60) && decide (c = -1) with
    | true => .osr (.rg i (-1) (i - j).toNat) h1
    | false => .no
  | _ => .no
def sqK (x : D) (h1 : Hh) : R := match itemsOf h1 x with
  | some _ => .osr (.sq x) h1
  | none => .no
def enK (x : D) (h1 : Hh) : R := match itemsOf h1 x with
  | some _ => .osr (.en x) h1
  | none => .no
def zpK (x y : D) (h2 : Hh) : R := match itemsOf h2 x, itemsOf h2 y with
  | some _, some _ => .osr (.zp x y) h2
  | _, _ => .no
def augXK (x : D) (y : D) (σ : Sg) (z : D) (h5 : Hh) : R := match setAt x y z h5 with
  | some h6 => .nx σ h6
  | none => .no
/-- a comprehension's turn -/
def lcT (n : Nat) (tg ifs e : I) (own : List Nat) (σ : Sg) (d : D) (h2 : Hh) : R := match asg (ev P n) tg d (wipeD σ own) h2 with
  | .nx σ2 h3 => (ev P n ifs σ2 h3).onb fun k h4 => match k with
    | true => (ev P n e σ2 h4).on fun x h5 => .ok x h5
    | false => .nx σ2 h4
  | _ => .no
/-- a loop's turn -/
def forT (n : Nat) (tg b : I) (d : D) (σ1 : Sg) (h2 : Hh) : R := (asg (ev P n) tg d σ1 h2).onx fun σ2 h3 => ev P n b σ2 h3
def c_gdx (k : Nat) (r : R) : R := r.on fun x h1 => gdxK P k x h1
@[simp] theorem ev_gdx (n k : Nat) (e : I) (σ : Sg) (h : Hh) : ev P (n + 1) (.gdx k e) σ h = c_gdx P k (ev P n e σ h) := rfl
@[simp] theorem k_gdx (k : Nat) (x : D) (h1 : Hh) : c_gdx P k (.ok x h1) = gdxK P k x h1 := rfl
def c_tup  (r : R) : R := r.ons fun x h1 => tupK x h1
@[simp] theorem k_tup  (x : List D) (h1 : Hh) : c_tup  (.oks x h1) = tupK x h1 := rfl
@[simp] theorem ev_tup (n : Nat)  (a : I) (σ : Sg) (h : Hh) : ev P (n + 1) (.tup a) σ h = c_tup  (ev P n a σ h) := rfl
def c_lst  (r : R) : R := r.ons fun x h1 => lstK x h1
@[simp] theorem k_lst  (x : List D) (h1 : Hh) : c_lst  (.oks x h1) = lstK x h1 := rfl
@[simp] theorem ev_lst (n : Nat)  (a : I) (σ : Sg) (h : Hh) : ev P (n + 1) (.lst a) σ h = c_lst  (ev P n a σ h) := rfl
def c_neg  (r : R) : R := r.on fun x h1 => negK x h1
@[simp] theorem k_neg  (x : D) (h1 : Hh) : c_neg  (.ok x h1) = negK x h1 := rfl
@[simp] theorem ev_neg (n : Nat)  (a : I) (σ : Sg) (h : Hh) : ev P (n + 1) (.neg a) σ h = c_neg  (ev P n a σ h) := rfl
def c_po  (r : R) : R := r.on fun x h1 => poK x h1
@[simp] theorem k_po  (x : D) (h1 : Hh) : c_po  (.ok x h1) = poK x h1 := rfl
@[simp] theorem ev_po (n : Nat)  (a : I) (σ : Sg) (h : Hh) : ev P (n + 1) (.po a) σ h = c_po  (ev P n a σ h) := rfl
def c_pop  (r : R) : R := r.on fun x h1 => popK x h1
@[simp] theorem k_pop  (x : D) (h1 : Hh) : c_pop  (.ok x h1) = popK x h1 := rfl
@[simp] theorem ev_pop (n : Nat)  (a : I) (σ : Sg) (h : Hh) : ev P (n + 1) (.pop a) σ h = c_pop  (ev P n a σ h) := rfl
def c_iR  (r : R) : R := r.ons fun x h1 => rngK x h1
@[simp] theorem k_iR  (x : List D) (h1 : Hh) : c_iR  (.oks x h1) = rngK x h1 := rfl
@[simp] theorem ev_iR (n : Nat)  (a : I) (σ : Sg) (h : Hh) : ev P (n + 1) (.iR a) σ h = c_iR  (ev P n a σ h) := rfl
def c_iS  (r : R) : R := r.on fun x h1 => sqK x h1
@[simp] theorem k_iS  (x : D) (h1 : Hh) : c_iS  (.ok x h1) = sqK x h1 := rfl
@[simp] theorem ev_iS (n : Nat)  (a : I) (σ : Sg) (h : Hh) : ev P (n + 1) (.iS a) σ h = c_iS  (ev P n a σ h) := rfl
def c_iE  (r : R) : R := r.on fun x h1 => enK x h1
@[simp] theorem k_iE  (x : D) (h1 : Hh) : c_iE  (.ok x h1) = enK x h1 := rfl
@[simp] theorem ev_iE (n : Nat)  (a : I) (σ : Sg) (h : Hh) : ev P (n + 1) (.iE a) σ h = c_iE  (ev P n a σ h) := rfl
def isiK (b : Bi) (d : D) (h : Hh) : R := builtin b [d] h
def rtK (d : D) (h : Hh) : R := .rt d h
@[simp] theorem rtK_eq (d : D) (h : Hh) : rtK d h = .rt d h := rfl
def c_isi (b : Bi) (r : R) : R := r.on fun x h1 => isiK b x h1
@[simp] theorem k_isi (b : Bi) (x : D) (h1 : Hh) : c_isi b (.ok x h1) = isiK b x h1 := rfl
@[simp] theorem ev_isi (n : Nat) (b : Bi) (a : I) (σ : Sg) (h : Hh) : ev P (n + 1) (.isi b a) σ h = c_isi b (ev P n a σ h) := rfl
def c_blt (b : Bi) (r : R) : R := r.ons fun x h1 => builtin b x h1
@[simp] theorem k_blt (b : Bi) (x : List D) (h1 : Hh) : c_blt b (.oks x h1) = builtin b x h1 := rfl
@[simp] theorem ev_blt (n : Nat) (b : Bi) (a : I) (σ : Sg) (h : Hh) : ev P (n + 1) (.blt b a) σ h = c_blt b (ev P n a σ h) := rfl
def c_ret  (r : R) : R := r.on fun x h1 => rtK x h1
@[simp] theorem k_ret  (x : D) (h1 : Hh) : c_ret  (.ok x h1) = rtK x h1 := rfl
@[simp] theorem ev_ret (n : Nat)  (a : I) (σ : Sg) (h : Hh) : ev P (n + 1) (.sRet a) σ h = c_ret  (ev P n a σ h) := rfl
def c_cal (n f : Nat) (r : R) : R := r.ons fun ds h1 => callF P n f ds h1
@[simp] theorem ev_cal (n f : Nat) (a : I) (σ : Sg) (h : Hh) : ev P (n + 1) (.cal f a) σ h = c_cal P n f (ev P n a σ h) := rfl
@[simp] theorem k_cal (n f : Nat) (ds : List D) (h1 : Hh) : c_cal P n f (.oks ds h1) = callF P n f ds h1 := rfl
def c_exp (σ : Sg) (r : R) : R := r.on fun _ h1 => .nx σ h1
@[simp] theorem ev_exp (n : Nat) (e : I) (σ : Sg) (h : Hh) : ev P (n + 1) (.sExp e) σ h = c_exp σ (ev P n e σ h) := rfl
@[simp] theorem k_exp (σ : Sg) (x : D) (h1 : Hh) : c_exp σ (.ok x h1) = .nx σ h1 := rfl
def c_asg (n : Nat) (g : I) (σ : Sg) (r : R) : R := r.on fun d h1 => asg (ev P n) g d σ h1
@[simp] theorem ev_asg (n : Nat) (g e : I) (σ : Sg) (h : Hh) : ev P (n + 1) (.sAsg g e) σ h = c_asg P n g σ (ev P n e σ h) := rfl
@[simp] theorem k_asg (n : Nat) (g : I) (σ : Sg) (x : D) (h1 : Hh) : c_asg P n g σ (.ok x h1) = asg (ev P n) g x σ h1 := rfl
/-- then the rest -/
def c_seq (n : Nat) (b : I) (r : R) : R := r.onx fun σ1 h1 => ev P n b σ1 h1
@[simp] theorem ev_cons (n : Nat) (a b : I) (σ : Sg) (h : Hh) : ev P (n + 1) (.sCons a b) σ h = c_seq P n b (ev P n a σ h) := rfl
@[simp] theorem k_nx (n : Nat) (b : I) (σ : Sg) (h : Hh) : c_seq P n b (.nx σ h) = ev P n b σ h := rfl
@[simp] theorem k_rt (n : Nat) (b : I) (d : D) (h : Hh) : c_seq P n b (.rt d h) = .rt d h := rfl
@[simp] theorem k_bk (n : Nat) (b : I) (σ : Sg) (h : Hh) : c_seq P n b (.bk σ h) = .bk σ h := rfl
@[simp] theorem k_ct (n : Nat) (b : I) (σ : Sg) (h : Hh) : c_seq P n b (.ct σ h) = .ct σ h := rfl
/-- a test: a, then b, else c -/
def c_if (n : Nat) (a b : I) (σ : Sg) (r : R) : R := r.onb fun k h1 => match k with
  | true => ev P n a σ h1
  | false => ev P n b σ h1
@[simp] theorem ev_if (n : Nat) (t a b : I) (σ : Sg) (h : Hh) : ev P (n + 1) (.sIf t a b) σ h = c_if P n a b σ (ev P n t σ h) := rfl
@[simp] theorem ev_ife (n : Nat) (t a b : I) (σ : Sg) (h : Hh) : ev P (n + 1) (.ife t a b) σ h = c_if P n a b σ (ev P n t σ h) := rfl
@[simp] theorem k_if (n : Nat) (a b : I) (σ : Sg) (k : Bool) (h1 : Hh) : c_if P n a b σ (.ok (.bl k) h1) = if k = true then ev P n a σ h1 else ev P n b σ h1 := by cases k <;> rfl
def c_and (n : Nat) (b : I) (σ : Sg) (r : R) : R := r.on fun x h1 => match x with
  | .bl true => ev P n b σ h1
  | .bl false => .ok (.bl false) h1
  | _ => .no
@[simp] theorem ev_and (n : Nat) (a b : I) (σ : Sg) (h : Hh) : ev P (n + 1) (.and a b) σ h = c_and P n b σ (ev P n a σ h) := rfl
@[simp] theorem k_and (n : Nat) (b : I) (σ : Sg) (k : Bool) (h1 : Hh) : c_and P n b σ (.ok (.bl k) h1) = if k = true then ev P n b σ h1 else .ok (.bl false) h1 := by cases k <;> rfl
def c_or (n : Nat) (b : I) (σ : Sg) (r : R) : R := r.on fun x h1 => match x with
  | .bl false => ev P n b σ h1
  | .bl true => .ok (.bl true) h1
  | _ => .no
@[simp] theorem ev_or (n : Nat) (a b : I) (σ : Sg) (h : Hh) : ev P (n + 1) (.or a b) σ h = c_or P n b σ (ev P n a σ h) := rfl
@[simp] theorem k_or (n : Nat) (b : I) (σ : Sg) (k : Bool) (h1 : Hh) : c_or P n b σ (.ok (.bl k) h1) = if k = true then .ok (.bl true) h1 else ev P n b σ h1 := by cases k <;> rfl
def c_not (r : R) : R := r.onb fun b h1 => .ok (.bl !b) h1
@[simp] theorem ev_not (n : Nat) (a : I) (σ : Sg) (h : Hh) : ev P (n + 1) (.not a) σ h = c_not (ev P n a σ h) := rfl
@[simp] theorem k_not (k : Bool) (h1 : Hh) : c_not (.ok (.bl k) h1) = .ok (.bl !k) h1 := rfl
def c_wh (n : Nat) (t b : I) (σ : Sg) (h : Hh) : R := loopW (fun σ1 h1 => ev P n t σ1 h1) (fun σ1 h1 => ev P n b σ1 h1) turns σ h
theorem ev_wh (n : Nat) (t b : I) (σ : Sg) (h : Hh) : ev P (n + 1) (.sWh t b) σ h = c_wh P n t b σ h := rfl
def c_for (n : Nat) (tg b : I) (σ : Sg) (r : R) : R := r.onsr fun s h1 => loopF s (forT P n tg b) turns 0 σ h1
@[simp] theorem ev_for (n : Nat) (tg it b : I) (σ : Sg) (h : Hh) : ev P (n + 1) (.sFor tg it b) σ h = c_for P n tg b σ (ev P n it σ h) := rfl
@[simp] theorem k_for (n : Nat) (tg b : I) (σ : Sg) (s : Src) (h1 : Hh) : c_for P n tg b σ (.osr s h1) = loopF s (forT P n tg b) turns 0 σ h1 := rfl
def c_lc (n : Nat) (tg ifs e : I) (own : List Nat) (σ : Sg) (r : R) : R := r.onsr fun s h1 => (loopC s (lcT P n tg ifs e own σ) turns 0 [] h1).ons fun ds h2 => newL h2 ds
@[simp] theorem ev_lc (n : Nat) (tg it ifs e : I) (own : List Nat) (σ : Sg) (h : Hh) : ev P (n + 1) (.lc tg it ifs e own) σ h = c_lc P n tg ifs e own σ (ev P n it σ h) := rfl
def c_new (r : R) : R := r.ons fun ds h2 => newL h2 ds
@[simp] theorem k_new (ds : List D) (h : Hh) : c_new (.oks ds h) = newL h ds := rfl
@[simp] theorem k_lc (n : Nat) (tg ifs e : I) (own : List Nat) (σ : Sg) (s : Src) (h1 : Hh) : c_lc P n tg ifs e own σ (.osr s h1) = c_new (loopC s (lcT P n tg ifs e own σ) turns 0 [] h1) := rfl
def c_acons (n : Nat) (r : I) (σ : Sg) (x : R) : R := x.on fun d h1 => (ev P n r σ h1).ons fun ds h2 => .oks (d :: ds) h2
def d_cons (d : D) (x : R) : R := x.ons fun ds h2 => .oks (d :: ds) h2
@[simp] theorem ev_acons (n : Nat) (e r : I) (σ : Sg) (h : Hh) : ev P (n + 1) (.acons e r) σ h = c_acons P n r σ (ev P n e σ h) := rfl
@[simp] theorem k_acons (n : Nat) (r : I) (σ : Sg) (d : D) (h1 : Hh) : c_acons P n r σ (.ok d h1) = d_cons d (ev P n r σ h1) := rfl
@[simp] theorem k_dcons (d : D) (ds : List D) (h2 : Hh) : d_cons d (.oks ds h2) = .oks (d :: ds) h2 := rfl
def c_astar (n : Nat) (r : I) (σ : Sg) (x : R) : R := x.on fun d h1 => match itemsOf h1 d with
  | some es => (ev P n r σ h1).ons fun ds h2 => .oks (es ++ ds) h2
  | none => .no
def d_star (es : List D) (x : R) : R := x.ons fun ds h2 => .oks (es ++ ds) h2
@[simp] theorem ev_astar (n : Nat) (e r : I) (σ : Sg) (h : Hh) : ev P (n + 1) (.astar e r) σ h = c_astar P n r σ (ev P n e σ h) := rfl
theorem k_astar (n : Nat) (r : I) (σ : Sg) (d : D) (h1 : Hh) (es : List D) (q : itemsOf h1 d = some es) : c_astar P n r σ (.ok d h1) = d_star es (ev P n r σ h1) := by
  show (match itemsOf h1 d with | some es => (ev P n r σ h1).ons fun ds h2 => .oks (es ++ ds) h2 | none => .no) = _
  rw [q]
  rfl
@[simp] theorem k_astarT (n : Nat) (r : I) (σ : Sg) (h1 : Hh) (es : List D) : c_astar P n r σ (.ok (.tup es) h1) = d_star es (ev P n r σ h1) := rfl
@[simp] theorem k_dstar (es ds : List D) (h2 : Hh) : d_star es (.oks ds h2) = .oks (es ++ ds) h2 := rfl
def c_bin (n : Nat) (o : BOp) (b : I) (σ : Sg) (r : R) : R := r.on fun x h1 => (ev P n b σ h1).on fun y h2 => binop o x y h2
def d_bin (o : BOp) (x : D) (r : R) : R := r.on fun y h2 => binop o x y h2
@[simp] theorem ev_bin (n : Nat) (o : BOp) (a b : I) (σ : Sg) (h : Hh) : ev P (n + 1) (.bin o a b) σ h = c_bin P n o b σ (ev P n a σ h) := rfl
@[simp] theorem k_bin (n : Nat) (o : BOp) (b : I) (σ : Sg) (x : D) (h1 : Hh) : c_bin P n o b σ (.ok x h1) = d_bin o x (ev P n b σ h1) := rfl
@[simp] theorem kd_bin (o : BOp) (x y : D) (h2 : Hh) : d_bin o x (.ok y h2) = binop o x y h2 := rfl
def c_cmp (n : Nat) (o : COp) (b : I) (σ : Sg) (r : R) : R := r.on fun x h1 => (ev P n b σ h1).on fun y h2 => cmpop o x y h2
def d_cmp (o : COp) (x : D) (r : R) : R := r.on fun y h2 => cmpop o x y h2
@[simp] theorem ev_cmp (n : Nat) (o : COp) (a b : I) (σ : Sg) (h : Hh) : ev P (n + 1) (.cmp o a b) σ h = c_cmp P n o b σ (ev P n a σ h) := rfl
@[simp] theorem k_cmp (n : Nat) (o : COp) (b : I) (σ : Sg) (x : D) (h1 : Hh) : c_cmp P n o b σ (.ok x h1) = d_cmp o x (ev P n b σ h1) := rfl
@[simp] theorem kd_cmp (o : COp) (x y : D) (h2 : Hh) : d_cmp o x (.ok y h2) = cmpop o x y h2 := rfl
def c_ix (n : Nat)  (b : I) (σ : Sg) (r : R) : R := r.on fun x h1 => (ev P n b σ h1).on fun y h2 => index x y h2
def d_ix  (x : D) (r : R) : R := r.on fun y h2 => index x y h2
@[simp] theorem ev_ix (n : Nat)  (a b : I) (σ : Sg) (h : Hh) : ev P (n + 1) (.ix a b) σ h = c_ix P n b σ (ev P n a σ h) := rfl
@[simp] theorem k_ix (n : Nat)  (b : I) (σ : Sg) (x : D) (h1 : Hh) : c_ix P n b σ (.ok x h1) = d_ix x (ev P n b σ h1) := rfl
@[simp] theorem kd_ix  (x y : D) (h2 : Hh) : d_ix x (.ok y h2) = index x y h2 := rfl
def c_app (n : Nat)  (b : I) (σ : Sg) (r : R) : R := r.on fun x h1 => (ev P n b σ h1).on fun y h2 => appK x y h2
def d_app  (x : D) (r : R) : R := r.on fun y h2 => appK x y h2
@[simp] theorem ev_app (n : Nat)  (a b : I) (σ : Sg) (h : Hh) : ev P (n + 1) (.app a b) σ h = c_app P n b σ (ev P n a σ h) := rfl
@[simp] theorem k_app (n : Nat)  (b : I) (σ : Sg) (x : D) (h1 : Hh) : c_app P n b σ (.ok x h1) = d_app x (ev P n b σ h1) := rfl
@[simp] theorem kd_app  (x y : D) (h2 : Hh) : d_app x (.ok y h2) = appK x y h2 := rfl
def c_iZ (n : Nat)  (b : I) (σ : Sg) (r : R) : R := r.on fun x h1 => (ev P n b σ h1).on fun y h2 => zpK x y h2
def d_iZ  (x : D) (r : R) : R := r.on fun y h2 => zpK x y h2
@[simp] theorem ev_iZ (n : Nat)  (a b : I) (σ : Sg) (h : Hh) : ev P (n + 1) (.iZ a b) σ h = c_iZ P n b σ (ev P n a σ h) := rfl
@[simp] theorem k_iZ (n : Nat)  (b : I) (σ : Sg) (x : D) (h1 : Hh) : c_iZ P n b σ (.ok x h1) = d_iZ x (ev P n b σ h1) := rfl
@[simp] theorem kd_iZ  (x y : D) (h2 : Hh) : d_iZ x (.ok y h2) = zpK x y h2 := rfl
def c_sl (n : Nat) (lo hi : I) (σ : Sg) (r : R) : R := r.on fun x h1 => (ev P n lo σ h1).on fun l h2 => (ev P n hi σ h2).on fun u h3 => slice x l u h3
def d_sl (n : Nat) (hi : I) (σ : Sg) (x : D) (r : R) : R := r.on fun l h2 => (ev P n hi σ h2).on fun u h3 => slice x l u h3
def e_sl (x l : D) (r : R) : R := r.on fun u h3 => slice x l u h3
@[simp] theorem ev_sl (n : Nat) (a lo hi : I) (σ : Sg) (h : Hh) : ev P (n + 1) (.sl a lo hi) σ h = c_sl P n lo hi σ (ev P n a σ h) := rfl
@[simp] theorem k_sl (n : Nat) (lo hi : I) (σ : Sg) (x : D) (h1 : Hh) : c_sl P n lo hi σ (.ok x h1) = d_sl P n hi σ x (ev P n lo σ h1) := rfl
@[simp] theorem kd_sl (n : Nat) (hi : I) (σ : Sg) (x l : D) (h1 : Hh) : d_sl P n hi σ x (.ok l h1) = e_sl x l (ev P n hi σ h1) := rfl
@[simp] theorem ke_sl (x l u : D) (h1 : Hh) : e_sl x l (.ok u h1) = slice x l u h1 := rfl
def c_chn (n : Nat) (o p : COp) (b c : I) (σ : Sg) (r : R) : R := r.on fun x h1 => (ev P n b σ h1).on fun y h2 => (cmpop o x y h2).onb fun k h3 => match k with
      | true => (ev P n c σ h3).on fun z h4 => cmpop p y z h4
      | false => .ok (.bl false) h3
def d_chn (n : Nat) (o p : COp) (c : I) (σ : Sg) (x : D) (r : R) : R := r.on fun y h2 => (cmpop o x y h2).onb fun k h3 => match k with
      | true => (ev P n c σ h3).on fun z h4 => cmpop p y z h4
      | false => .ok (.bl false) h3
def e_chn (n : Nat) (p : COp) (c : I) (σ : Sg) (y : D) (r : R) : R := r.onb fun k h3 => match k with
      | true => (ev P n c σ h3).on fun z h4 => cmpop p y z h4
      | false => .ok (.bl false) h3
@[simp] theorem ev_chn (n : Nat) (o p : COp) (a b c : I) (σ : Sg) (h : Hh) : ev P (n + 1) (.chn o p a b c) σ h = c_chn P n o p b c σ (ev P n a σ h) := rfl
@[simp] theorem k_chn (n : Nat) (o p : COp) (b c : I) (σ : Sg) (x : D) (h1 : Hh) : c_chn P n o p b c σ (.ok x h1) = d_chn P n o p c σ x (ev P n b σ h1) := rfl
@[simp] theorem kd_chn (n : Nat) (o p : COp) (c : I) (σ : Sg) (x y : D) (h1 : Hh) : d_chn P n o p c σ x (.ok y h1) = e_chn P n p c σ y (cmpop o x y h1) := rfl
@[simp] theorem ke_chn (n : Nat) (p : COp) (c : I) (σ : Sg) (y : D) (k : Bool) (h1 : Hh) : e_chn P n p c σ y (.ok (.bl k) h1) = if k = true then d_cmp p y (ev P n c σ h1) else .ok (.bl false) h1 := by cases k <;> rfl
def c_par2 (n i j : Nat) (b : I) (σ : Sg) (r : R) : R := r.on fun x h1 => (ev P n b σ h1).on fun y h2 => .nx ((σ.set i x).set j y) h2
def d_par2 (i j : Nat) (σ : Sg) (x : D) (r : R) : R := r.on fun y h2 => .nx ((σ.set i x).set j y) h2
@[simp] theorem ev_par2 (n i j : Nat) (a b : I) (σ : Sg) (h : Hh) : ev P (n + 1) (.sPar2 i j a b) σ h = c_par2 P n i j b σ (ev P n a σ h) := rfl
@[simp] theorem k_par2 (n i j : Nat) (b : I) (σ : Sg) (x : D) (h1 : Hh) : c_par2 P n i j b σ (.ok x h1) = d_par2 i j σ x (ev P n b σ h1) := rfl
@[simp] theorem kd_par2 (i j : Nat) (σ : Sg) (x y : D) (h1 : Hh) : d_par2 i j σ x (.ok y h1) = .nx ((σ.set i x).set j y) h1 := rfl
def c_par3 (n i j k : Nat) (b c : I) (σ : Sg) (r : R) : R := r.on fun x h1 => (ev P n b σ h1).on fun y h2 => (ev P n c σ h2).on fun z h3 => .nx (((σ.set i x).set j y).set k z) h3
def d_par3 (n i j k : Nat) (c : I) (σ : Sg) (x : D) (r : R) : R := r.on fun y h2 => (ev P n c σ h2).on fun z h3 => .nx (((σ.set i x).set j y).set k z) h3
def e_par3 (i j k : Nat) (σ : Sg) (x y : D) (r : R) : R := r.on fun z h3 => .nx (((σ.set i x).set j y).set k z) h3
@[simp] theorem ev_par3 (n i j k : Nat) (a b c : I) (σ : Sg) (h : Hh) : ev P (n + 1) (.sPar3 i j k a b c) σ h = c_par3 P n i j k b c σ (ev P n a σ h) := rfl
@[simp] theorem k_par3 (n i j k : Nat) (b c : I) (σ : Sg) (x : D) (h1 : Hh) : c_par3 P n i j k b c σ (.ok x h1) = d_par3 P n i j k c σ x (ev P n b σ h1) := rfl
@[simp] theorem kd_par3 (n i j k : Nat) (c : I) (σ : Sg) (x y : D) (h1 : Hh) : d_par3 P n i j k c σ x (.ok y h1) = e_par3 i j k σ x y (ev P n c σ h1) := rfl
@[simp] theorem ke_par3 (i j k : Nat) (σ : Sg) (x y z : D) (h1 : Hh) : e_par3 i j k σ x y (.ok z h1) = .nx (((σ.set i x).set j y).set k z) h1 := rfl
def c_aug (n i : Nat) (o : BOp) (e : I) (σ : Sg) (r : R) : R := r.on fun x h1 => (ev P n e σ h1).on fun y h2 => (augop o x y h2).on fun z h3 => .nx (σ.set i z) h3
def d_aug (i : Nat) (o : BOp) (σ : Sg) (x : D) (r : R) : R := r.on fun y h2 => (augop o x y h2).on fun z h3 => .nx (σ.set i z) h3
def e_aug (i : Nat) (σ : Sg) (r : R) : R := r.on fun z h3 => .nx (σ.set i z) h3
@[simp] theorem ev_aug (n i : Nat) (o : BOp) (e : I) (σ : Sg) (h : Hh) : ev P (n + 1) (.sAug i o e) σ h = c_aug P n i o e σ (getV σ i h) := rfl
@[simp] theorem k_aug (n i : Nat) (o : BOp) (e : I) (σ : Sg) (x : D) (h1 : Hh) : c_aug P n i o e σ (.ok x h1) = d_aug i o σ x (ev P n e σ h1) := rfl
@[simp] theorem kd_aug (i : Nat) (o : BOp) (σ : Sg) (x y : D) (h1 : Hh) : d_aug i o σ x (.ok y h1) = e_aug i σ (augop o x y h1) := rfl
@[simp] theorem ke_aug (i : Nat) (σ : Sg) (z : D) (h1 : Hh) : e_aug i σ (.ok z h1) = .nx (σ.set i z) h1 := rfl
def c_augX (n : Nat) (i : I) (op : BOp) (e : I) (σ : Sg) (r : R) : R := r.on fun x h1 => (ev P n i σ h1).on fun y h2 => match x with
      | .ptr a => (index (.ptr a) y h2).on fun u h3 => (ev P n e σ h3).on fun v h4 => (augop op u v h4).on fun z h5 => augXK (.ptr a) y σ z h5
      | _ => .no
def d_augX (n : Nat) (op : BOp) (e : I) (σ : Sg) (a : Nat) (r : R) : R := r.on fun y h2 => (index (.ptr a) y h2).on fun u h3 => (ev P n e σ h3).on fun v h4 => (augop op u v h4).on fun z h5 => augXK (.ptr a) y σ z h5
def e_augX (n : Nat) (op : BOp) (e : I) (σ : Sg) (a : Nat) (y : D) (r : R) : R := r.on fun u h3 => (ev P n e σ h3).on fun v h4 => (augop op u v h4).on fun z h5 => augXK (.ptr a) y σ z h5
def f_augX (op : BOp) (σ : Sg) (a : Nat) (y u : D) (r : R) : R := r.on fun v h4 => (augop op u v h4).on fun z h5 => augXK (.ptr a) y σ z h5
def g_augX (σ : Sg) (a : Nat) (y : D) (r : R) : R := r.on fun z h5 => augXK (.ptr a) y σ z h5
theorem ev_augX0 (n : Nat) (o i : I) (op : BOp) (e : I) (σ : Sg) (h : Hh) : ev P (n + 1) (.sAugX o i op e) σ h = c_augX P n i op e σ (ev P n o σ h) := rfl
@[simp] theorem ev_augX (n : Nat) (o i : I) (op : BOp) (e : I) (σ : Sg) (h : Hh) : ev P (n + 1) (.sAugX o i op e) σ h = c_augX P n i op e σ (ev P n o σ h) := rfl
@[simp] theorem k_augX (n : Nat) (i : I) (op : BOp) (e : I) (σ : Sg) (a : Nat) (h1 : Hh) : c_augX P n i op e σ (.ok (.ptr a) h1) = d_augX P n op e σ a (ev P n i σ h1) := rfl
@[simp] theorem kd_augX (n : Nat) (op : BOp) (e : I) (σ : Sg) (a : Nat) (y : D) (h1 : Hh) : d_augX P n op e σ a (.ok y h1) = e_augX P n op e σ a y (index (.ptr a) y h1) := rfl
@[simp] theorem ke_augX (n : Nat) (op : BOp) (e : I) (σ : Sg) (a : Nat) (y u : D) (h1 : Hh) : e_augX P n op e σ a y (.ok u h1) = f_augX op σ a y u (ev P n e σ h1) := rfl
@[simp] theorem kf_augX (op : BOp) (σ : Sg) (a : Nat) (y u v : D) (h1 : Hh) : f_augX op σ a y u (.ok v h1) = g_augX σ a y (augop op u v h1) := rfl
@[simp] theorem kg_augX (σ : Sg) (a : Nat) (y z : D) (h1 : Hh) : g_augX σ a y (.ok z h1) = augXK (.ptr a) y σ z h1 := rfl
/-! targets -/
@[simp] theorem asg_gv (n i : Nat) (d : D) (σ : Sg) (h : Hh) : asg (ev P n) (.gv i) d σ h = .nx (σ.set i d) h := rfl
@[simp] theorem asg_gt (n : Nat) (g : I) (ds : List D) (σ : Sg) (h : Hh) : asg (ev P n) (.gt g) (.tup ds) σ h = asgs g ds σ h := rfl
@[simp] theorem asg_gtm (n : Nat) (g : I) (ds : List D) (σ : Sg) (h : Hh) : asg (ev P n) (.gt g) (.mtp ds) σ h = asgs g ds σ h := rfl
@[simp] theorem asgs_nil (σ : Sg) (h : Hh) : asgs .gnil [] σ h = .nx σ h := rfl
@[simp] theorem asgs_cons (i : Nat) (r : I) (d : D) (ds : List D) (σ : Sg) (h : Hh) : asgs (.gcons (.gv i) r) (d :: ds) σ h = asgs r ds (σ.set i d) h := rfl
def c_gx (n : Nat) (i : I) (d : D) (σ : Sg) (r : R) : R := r.on fun x h2 => (ev P n i σ h2).on fun y h3 => augXK x y σ d h3
def d_gx (d : D) (σ : Sg) (x : D) (r : R) : R := r.on fun y h3 => augXK x y σ d h3
@[simp] theorem asg_gx (n : Nat) (o i : I) (d : D) (σ : Sg) (h : Hh) : asg (ev P n) (.gx o i) d σ h = c_gx P n i d σ (ev P n o σ h) := rfl
@[simp] theorem k_gx (n : Nat) (i : I) (d : D) (σ : Sg) (x : D) (h1 : Hh) : c_gx P n i d σ (.ok x h1) = d_gx d σ x (ev P n i σ h1) := rfl
@[simp] theorem kd_gx (d : D) (σ : Sg) (x y : D) (h1 : Hh) : d_gx d σ x (.ok y h1) = augXK x y σ d h1 := rfl
/-! turns -/
@[simp] theorem forT_gv (n i : Nat) (b : I) (d : D) (σ : Sg) (h : Hh) : forT P n (.gv i) b d σ h = ev P n b (σ.set i d) h := rfl
theorem forT_eq (n : Nat) (tg b : I) (d : D) (σ : Sg) (h : Hh) : forT P n tg b d σ h = c_seq P n b (asg (ev P n) tg d σ h) := rfl
def lcK (n : Nat) (ifs e : I) (r : R) : R := match r with
  | .nx σ2 h3 => (ev P n ifs σ2 h3).onb fun k h4 => match k with
    | true => (ev P n e σ2 h4).on fun x h5 => .ok x h5
    | false => .nx σ2 h4
  | _ => .no
theorem lcT_eq (n : Nat) (tg ifs e : I) (own : List Nat) (σ : Sg) (d : D) (h : Hh) : lcT P n tg ifs e own σ d h = lcK P n ifs e (asg (ev P n) tg d (wipeD σ own) h) := rfl
def lcJ (n : Nat) (e : I) (σ : Sg) (r : R) : R := r.onb fun k h4 => match k with
    | true => (ev P n e σ h4).on fun x h5 => .ok x h5
    | false => .nx σ h4
@[simp] theorem lcK_nx (n : Nat) (ifs e : I) (σ : Sg) (h : Hh) : lcK P n ifs e (.nx σ h) = lcJ P n e σ (ev P n ifs σ h) := rfl
def lcL (r : R) : R := r.on fun x h5 => .ok x h5
@[simp] theorem lcL_ok (d : D) (h : Hh) : lcL (.ok d h) = .ok d h := rfl
@[simp] theorem lcJ_ok (n : Nat) (e : I) (σ : Sg) (k : Bool) (h : Hh) : lcJ P n e σ (.ok (.bl k) h) = if k = true then lcL (ev P n e σ h) else .nx σ h := by cases k <;> rfl
/-! calls -/
theorem callF_at {n f : Nat} {ds : List D} {h : Hh} {fd : Fd} {σ : Sg} (e : P.fs[f]? = some fd) (e2 : entry fd ds = some σ) : callF P n f ds h = called (ev P n fd.body σ h) h.length := by
  unfold callF
  rw [e]
  dsimp only
  rw [e2]
end
@[simp] theorem called_rt (d : D) (h : Hh) (n : Nat) : called (.rt d h) n = back n d h := rfl
@[simp] theorem called_nx (σ : Sg) (h : Hh) (n : Nat) : called (.nx σ h) n = .ok .non (h.take n) := rfl
@[simp] theorem back_int (n : Nat) (i : Int) (h : Hh) : back n (.int i) h = .ok (.int i) (h.take n) := rfl
@[simp] theorem back_bl (n : Nat) (i : Bool) (h : Hh) : back n (.bl i) h = .ok (.bl i) (h.take n) := rfl
@[simp] theorem back_tup (n : Nat) (i : List D) (h : Hh) : back n (.tup i) h = .ok (.tup i) (h.take n) := rfl
@[simp] theorem back_non (n : Nat) (h : Hh) : back n .non h = .ok .non (h.take n) := rfl
/-! values -/
@[simp] theorem binop_add (i j : Int) (h : Hh) : binop .add (.int i) (.int j) h = .ok (.int (i + j)) h := rfl
@[simp] theorem binop_sub (i j : Int) (h : Hh) : binop .sub (.int i) (.int j) h = .ok (.int (i - j)) h := rfl
theorem binop_mul {i j : Int} (q : mulOk i j = true) (h : Hh) : binop .mul (.int i) (.int j) h = .ok (.int (i * j)) h := by
  show (match mulOk i j with | true => R.ok (.int (i * j)) h | false => R.no) = _
  rw [q]
theorem binop_mod {i j : Int} (q : posI j = true) (h : Hh) : binop .mod (.int i) (.int j) h = .ok (.int (i % j)) h := by
  show (match posI j with | true => R.ok (.int (i % j)) h | false => R.no) = _
  rw [q]
theorem binop_fdiv {i j : Int} (q : divOk j = true) (h : Hh) : binop .fdiv (.int i) (.int j) h = .ok (.int (i / j)) h := by
  show (match divOk j with | true => R.ok (.int (i / j)) h | false => R.no) = _
  rw [q]
@[simp] theorem augop_add (i j : Int) (h : Hh) : augop .add (.int i) (.int j) h = .ok (.int (i + j)) h := rfl
@[simp] theorem augop_sub (i j : Int) (h : Hh) : augop .sub (.int i) (.int j) h = .ok (.int (i - j)) h := rfl
theorem posI_of {j : Int} (h : 0 < j) : posI j = true := by
  match j, h with
  | .ofNat (n + 1), _ => rfl
theorem smallI_of {j : Int} (h : j.natAbs < 2 ^ 64) : smallI j = true := by
  unfold smallI
  exact Nat.blt_eq.mpr h
theorem mulOk_l {i j : Int} (h : i.natAbs < 2 ^ 64) : mulOk i j = true := by
  unfold mulOk
  rw [smallI_of h]
  rfl
theorem mulOk_r {i j : Int} (h : j.natAbs < 2 ^ 64) : mulOk i j = true := by
  unfold mulOk
  rw [smallI_of h, Bool.or_true]
theorem divOk_of {j : Int} (h : 0 < j) (h2 : j.natAbs < 2 ^ 64) : divOk j = true := by
  unfold divOk
  rw [posI_of h, Bool.true_and]
  exact Nat.blt_eq.mpr (Nat.lt_of_lt_of_le h2 (Nat.pow_le_pow_right (by decide) (by decide)))
@[simp] theorem cmp_lt (i j : Int) (h : Hh) : cmpop .lt (.int i) (.int j) h = .ok (.bl (decide (i < j))) h := rfl
@[simp] theorem cmp_le (i j : Int) (h : Hh) : cmpop .le (.int i) (.int j) h = .ok (.bl (decide (i ≤ j))) h := rfl
@[simp] theorem cmp_gt (i j : Int) (h : Hh) : cmpop .gt (.int i) (.int j) h = .ok (.bl (decide (j < i))) h := rfl
@[simp] theorem cmp_ge (i j : Int) (h : Hh) : cmpop .ge (.int i) (.int j) h = .ok (.bl (decide (j ≤ i))) h := rfl
@[simp] theorem cmp_eq (x y : D) (h : Hh) : cmpop .eq x y h = oB (pyEq h x y) (fun b => b) h := rfl
@[simp] theorem cmp_ne (x y : D) (h : Hh) : cmpop .ne x y h = oB (pyEq h x y) (fun b => !b) h := rfl
@[simp] theorem oB_some (b : Bool) (f : Bool → Bool) (h : Hh) : oB (some b) f h = .ok (.bl (f b)) h := rfl
/-! the heap behind a base -/
theorem h_get0 (h l : Hh) : (h ++ l)[h.length]? = l[0]? := by
  rw [List.getElem?_append_right (Nat.le_refl _), Nat.sub_self]
theorem h_get (h l : Hh) (i : Nat) : (h ++ l)[h.length + i]? = l[i]? := by
  rw [List.getElem?_append_right (by omega), Nat.add_sub_cancel_left]
theorem h_set0 (h l : Hh) (d : List D) : (h ++ l).set h.length d = h ++ l.set 0 d := by
  rw [List.set_append_right _ _ (Nat.le_refl _), Nat.sub_self]
theorem h_set (h l : Hh) (i : Nat) (d : List D) : (h ++ l).set (h.length + i) d = h ++ l.set i d := by
  rw [List.set_append_right _ _ (by omega), Nat.add_sub_cancel_left]
theorem h_take (h l : Hh) : (h ++ l).take h.length = h := List.take_left ..
theorem h_take0 (h : Hh) : h.take h.length = h := List.take_length ..
theorem newL0 (h : Hh) (ds : List D) : newL h ds = .ok (.ptr h.length) (h ++ [ds]) := rfl
theorem newL1 (h : Hh) (l : Hh) (ds : List D) : newL (h ++ l) ds = .ok (.ptr (h.length + l.length)) (h ++ (l ++ [ds])) := by
  unfold newL
  rw [List.length_append, List.append_assoc]
/-! lists of intL -/
def intL (xs : List Int) : List D := xs.map D.int
@[simp] theorem intL_len (xs : List Int) : (intL xs).length = xs.length := List.length_map ..
theorem intL_any (xs : List Int) : (intL xs).any isPtr = false := by
  induction xs with
  | nil => rfl
  | cons x xs ih => exact ih
@[simp] theorem mkT_intL (xs : List Int) : mkT (intL xs) = .tup (intL xs) := by
  unfold mkT
  rw [intL_any]
theorem intL_app (xs ys : List Int) : intL xs ++ intL ys = intL (xs ++ ys) := (List.map_append ..).symm
theorem intL_get (xs : List Int) (i : Nat) : (intL xs)[i]? = xs[i]?.map D.int := List.getElem?_map ..
theorem intL_set (xs : List Int) (i : Nat) (x : Int) : (intL xs).set i (.int x) = intL (xs.set i x) := (List.map_set ..).symm
theorem intL_rep (n : Nat) (x : Int) : (List.replicate n [D.int x]).flatten = intL (List.replicate n x) := by
  induction n with
  | zero => rfl
  | succ n ih => rw [List.replicate_succ, List.flatten_cons, ih, List.replicate_succ]; rfl
end Ev.Rx
-- EvY
/-! EvY: loops by invariants, values -/
namespace Ev.Rx
open PySem
theorem loopF_inv {s : Src} {f : D → Sg → Hh → R} (St : Nat → Sg → Hh → Prop) (n : Nat)
    (step : ∀ i σ h, i < n → St i σ h → ∃ d σ' h', srcAt h s i = some (some d) ∧ (f d σ h = .nx σ' h' ∨ f d σ h = .ct σ' h') ∧ St (i + 1) σ' h')
    (done : ∀ σ h, St n σ h → srcAt h s n = some none) :
    ∀ (m i : Nat) (σ : Sg) (h : Hh), n < m + i → i ≤ n → St i σ h → ∃ σ' h', loopF s f m i σ h = .nx σ' h' ∧ St n σ' h'
  | 0, i, σ, h, h1, h2, _ => by omega
  | m + 1, i, σ, h, h1, h2, st => by
    rcases Nat.lt_or_ge i n with hi | hi
    · obtain ⟨d, σ', h', e1, e2, st'⟩ := step i σ h hi st
      obtain ⟨σ2, h2', r, st2⟩ := loopF_inv St n step done m (i + 1) σ' h' (by omega) (by omega) st'
      refine ⟨σ2, h2', ?_, st2⟩
      unfold loopF
      rw [e1]
      dsimp only
      rcases e2 with e2 | e2 <;> rw [e2] <;> exact r
    · have e : i = n := by omega
      subst e
      refine ⟨σ, h, ?_, st⟩
      unfold loopF
      rw [done σ h st]
/-- a loop whose states are known -/
theorem loopF_det {s : Src} {f : D → Sg → Hh → R} (S : Nat → Sg) (H : Nat → Hh) (n : Nat) (hn : n < 1000000)
    (step : ∀ i, i < n → ∃ d, srcAt (H i) s i = some (some d) ∧ f d (S i) (H i) = .nx (S (i + 1)) (H (i + 1)))
    (done : srcAt (H n) s n = some none) : loopF s f turns 0 (S 0) (H 0) = .nx (S n) (H n) := by
  obtain ⟨σ', h', e, e1, e2⟩ := loopF_inv (s := s) (f := f) (fun i σ h => σ = S i ∧ h = H i) n (fun i σ h hi st => by
    obtain ⟨rfl, rfl⟩ := st
    obtain ⟨d, q1, q2⟩ := step i hi
    exact ⟨d, _, _, q1, .inl q2, rfl, rfl⟩) (fun σ h st => by
    obtain ⟨rfl, rfl⟩ := st
    exact done) turns 0 (S 0) (H 0) (by unfold turns; omega) (Nat.zero_le _) ⟨rfl, rfl⟩
  rw [e, e1, e2]
theorem loopW_inv {t : Sg → Hh → R} {f : Sg → Hh → R} (St : Nat → Sg → Hh → Prop) (fin : Sg → Hh → Prop)
    (step : ∀ k σ h, St k σ h → ∃ b h1, t σ h = .ok (.bl b) h1 ∧ (b = false → fin σ h1) ∧ (b = true → ∃ σ' h' k', k' < k ∧ f σ h1 = .nx σ' h' ∧ St k' σ' h')) :
    ∀ (m k : Nat) (σ : Sg) (h : Hh), k < m → St k σ h → ∃ σ' h', loopW t f m σ h = .nx σ' h' ∧ fin σ' h'
  | 0, k, σ, h, h1, _ => by omega
  | m + 1, k, σ, h, h1, st => by
    obtain ⟨b, h1', e, e1, e2⟩ := step k σ h st
    unfold loopW
    rw [e]
    cases b with
    | false => exact ⟨σ, h1', rfl, e1 rfl⟩
    | true =>
      obtain ⟨σ', h', k', lt, e3, st'⟩ := e2 rfl
      obtain ⟨σ2, h2, r, z⟩ := loopW_inv St fin step m k' σ' h' (by omega) st'
      refine ⟨σ2, h2, ?_, z⟩
      show (match f σ h1' with
        | .nx σ' h' => loopW t f m σ' h'
        | .ct σ' h' => loopW t f m σ' h'
        | .bk σ' h' => .nx σ' h'
        | .rt d h' => .rt d h'
        | _ => .no) = _
      rw [e3]
      exact r
theorem loopC_at {s : Src} {f : D → Hh → R} {h : Hh} (g : D → Option D) (xs : List D) (hs : ∀ i, i ≤ xs.length → srcAt h s i = some xs[i]?)
    (hf : ∀ x ∈ xs, (∃ y, g x = some y ∧ f x h = .ok y h) ∨ (g x = none ∧ ∃ σ, f x h = .nx σ h)) (hl : xs.length < 1000000) :
    ∀ (m i : Nat) (acc : List D), xs.length < m + i → i ≤ xs.length → acc.length ≤ i → loopC s f m i acc h = .oks (acc.reverse ++ (xs.drop i).filterMap g) h
  | 0, i, acc, h1, h2, _ => by omega
  | m + 1, i, acc, h1, h2, h3 => by
    unfold loopC
    rw [hs i h2]
    rcases Nat.lt_or_ge i xs.length with hi | hi
    · rw [List.getElem?_eq_getElem hi]
      dsimp only
      rw [List.drop_eq_getElem_cons hi, List.filterMap_cons]
      rcases hf xs[i] (List.getElem_mem hi) with ⟨y, e1, e2⟩ | ⟨e1, σ, e2⟩
      · rw [e2, e1]
        dsimp only
        rw [loopC_at g xs hs hf hl m (i + 1) (y :: acc) (by omega) (by omega) (by simp; omega)]
        simp
      · rw [e2, e1]
        dsimp only
        rw [loopC_at g xs hs hf hl m (i + 1) acc (by omega) (by omega) (by omega)]
    · rw [List.getElem?_eq_none hi]
      dsimp only
      have e : Nat.ble acc.length line = true := Nat.ble_eq.mpr (by unfold line; omega)
      rw [e, List.drop_eq_nil_of_le hi]
      simp
theorem loopC_fm {s : Src} {f : D → Hh → R} {h : Hh} (g : D → Option D) (xs : List D) (hs : ∀ i, i ≤ xs.length → srcAt h s i = some xs[i]?)
    (hf : ∀ x ∈ xs, (∃ y, g x = some y ∧ f x h = .ok y h) ∨ (g x = none ∧ ∃ σ, f x h = .nx σ h)) (hl : xs.length < 1000000) :
    loopC s f turns 0 [] h = .oks (xs.filterMap g) h := by
  rw [loopC_at g xs hs hf hl turns 0 [] (by unfold turns; omega) (Nat.zero_le _) (Nat.zero_le _)]
  rfl
theorem loopC_map {s : Src} {f : D → Hh → R} {h : Hh} (g : D → D) (xs : List D) (hs : ∀ i, i ≤ xs.length → srcAt h s i = some xs[i]?)
    (hf : ∀ x ∈ xs, f x h = .ok (g x) h) (hl : xs.length < 1000000) :
    loopC s f turns 0 [] h = .oks (xs.map g) h := by
  rw [loopC_fm (fun x => some (g x)) xs hs (fun x hx => .inl ⟨_, rfl, hf x hx⟩) hl]
  congr 1
  induction xs with
  | nil => rfl
  | cons x xs ih => simp
@[simp] theorem getV_zero (d : D) (σ : Sg) (h : Hh) : getV (d :: σ) 0 h = match isUna d with | true => .no | false => .ok d h := rfl
@[simp] theorem getV_succ (d : D) (σ : Sg) (i : Nat) (h : Hh) : getV (d :: σ) (i + 1) h = getV σ i h := rfl
@[simp] theorem una_int (i : Int) : isUna (.int i) = false := Eq.trans rfl rfl
@[simp] theorem una_bl (i : Bool) : isUna (.bl i) = false := Eq.trans rfl rfl
@[simp] theorem una_tup (i : List D) : isUna (.tup i) = false := Eq.trans rfl rfl
@[simp] theorem una_mtp (i : List D) : isUna (.mtp i) = false := Eq.trans rfl rfl
@[simp] theorem una_frl (i : List D) : isUna (.frl i) = false := Eq.trans rfl rfl
@[simp] theorem una_ptr (i : Nat) : isUna (.ptr i) = false := Eq.trans rfl rfl
@[simp] theorem una_non : isUna .non = false := Eq.trans rfl rfl
theorem known_una {v : D} (k : known v = true) : isUna v = false := by cases v <;> first | rfl | cases k
@[simp] theorem ptr_int (i : Int) : isPtr (.int i) = false := Eq.trans rfl rfl
@[simp] theorem ptr_bl (i : Bool) : isPtr (.bl i) = false := Eq.trans rfl rfl
@[simp] theorem ptr_tup (i : List D) : isPtr (.tup i) = false := Eq.trans rfl rfl
@[simp] theorem ptr_non : isPtr .non = false := Eq.trans rfl rfl
@[simp] theorem ptr_str (x : Str) : isPtr (.str x) = false := Eq.trans rfl rfl
@[simp] theorem tru_bl (h : Hh) (b : Bool) : tru h (.bl b) = some b := rfl
@[simp] theorem items_tup (h : Hh) (ds : List D) : itemsOf h (.tup ds) = some ds := rfl
@[simp] theorem items_frl (h : Hh) (ds : List D) : itemsOf h (.frl ds) = some ds := rfl
@[simp] theorem items_mtp (h : Hh) (ds : List D) : itemsOf h (.mtp ds) = some ds := rfl
@[simp] theorem items_ptr (h : Hh) (a : Nat) : itemsOf h (.ptr a) = h[a]? := rfl
@[simp] theorem known_int (i : Int) : known (.int i) = true := Eq.trans rfl rfl
@[simp] theorem known_bl (i : Bool) : known (.bl i) = true := Eq.trans rfl rfl
@[simp] theorem known_str (i : Str) : known (.str i) = true := Eq.trans rfl rfl
@[simp] theorem known_tup (i : List D) : known (.tup i) = true := Eq.trans rfl rfl
@[simp] theorem known_ptr (i : Nat) : known (.ptr i) = true := Eq.trans rfl rfl
@[simp] theorem known_non : known .non = true := Eq.trans rfl rfl
@[simp] theorem known_emp : known .emp = true := Eq.trans rfl rfl
@[simp] theorem tyI_int (i : Int) : tyI (.int i) = true := Eq.trans rfl rfl
@[simp] theorem tyB_int (i : Int) : tyB (.int i) = false := Eq.trans rfl rfl
theorem isi_int {v : D} (k : known v = true) (h : Hh) : isiK .isIntB v h = .ok (.bl (tyI v)) h := by
  show (match known v with | true => R.ok (.bl (tyI v)) h | false => .no) = _
  rw [k]
theorem isi_bl {v : D} (k : known v = true) (h : Hh) : isiK .isBoolB v h = .ok (.bl (tyB v)) h := by
  show (match known v with | true => R.ok (.bl (tyB v)) h | false => .no) = _
  rw [k]
theorem isi_tup {v : D} (k : known v = true) (h : Hh) : isiK .isTupB v h = .ok (.bl (tyT v)) h := by
  show (match known v with | true => R.ok (.bl (tyT v)) h | false => .no) = _
  rw [k]
theorem tupK_of {ds : List D} (hl : ds.length ≤ 1000000) (h : Hh) : tupK ds h = .ok (mkT ds) h := by
  unfold tupK
  have e : Nat.ble ds.length line = true := Nat.ble_eq.mpr (by unfold line; omega)
  rw [e]
theorem lstK_of {ds : List D} (hl : ds.length ≤ 1000000) (h : Hh) : lstK ds h = newL h ds := by
  unfold lstK
  have e : Nat.ble ds.length line = true := Nat.ble_eq.mpr (by unfold line; omega)
  rw [e]
theorem catO_of {ds es : List D} (hl : ds.length + es.length ≤ 1000000) : catO ds es = some (ds ++ es) := by
  unfold catO
  have e : Nat.ble (ds.length + es.length) line = true := Nat.ble_eq.mpr (by unfold line; omega)
  rw [e]
theorem repO_of {ds : List D} {k : Int} (hl : ds.length * k.toNat ≤ 1000000) (hk : k.natAbs < 2 ^ 62) : repO ds k = some (List.replicate k.toNat ds).flatten := by
  unfold repO
  have e : (Nat.ble (ds.length * k.toNat) line && Nat.blt k.natAbs (2 ^ 62)) = true := by
    rw [Bool.and_eq_true]
    exact ⟨Nat.ble_eq.mpr (by unfold line; omega), Nat.blt_eq.mpr hk⟩
  rw [e]
theorem bin_addT {ds es : List D} (hl : ds.length + es.length ≤ 1000000) (h : Hh) : binop .add (.tup ds) (.tup es) h = .ok (.tup (ds ++ es)) h := by
  show (match catO ds es with | some fs => R.ok (.tup fs) h | none => .no) = _
  rw [catO_of hl]
theorem bin_addL {a b : Nat} {ds es : List D} {h : Hh} (ea : h[a]? = some ds) (eb : h[b]? = some es) (hl : ds.length + es.length ≤ 1000000) : binop .add (.ptr a) (.ptr b) h = newL h (ds ++ es) := by
  show (match h[a]?, h[b]? with | some ds, some es => (match catO ds es with | some fs => newL h fs | none => .no) | _, _ => .no) = _
  rw [ea, eb]
  dsimp only
  rw [catO_of hl]
theorem bin_repT {ds : List D} {k : Int} (hl : ds.length * k.toNat ≤ 1000000) (hk : k.natAbs < 2 ^ 62) (h : Hh) : binop .mul (.tup ds) (.int k) h = .ok (.tup (List.replicate k.toNat ds).flatten) h := by
  show (match repO ds k with | some fs => R.ok (.tup fs) h | none => .no) = _
  rw [repO_of hl hk]
theorem bin_repL {a : Nat} {ds : List D} {k : Int} {h : Hh} (ea : h[a]? = some ds) (hl : ds.length * k.toNat ≤ 1000000) (hk : k.natAbs < 2 ^ 62) : binop .mul (.ptr a) (.int k) h = newL h (List.replicate k.toNat ds).flatten := by
  show (match h[a]? with | some ds => (match repO ds k with | some fs => newL h fs | none => .no) | none => .no) = _
  rw [ea]
  dsimp only
  rw [repO_of hl hk]
theorem bi_len {x : D} {ds : List D} {h : Hh} (e : itemsOf h x = some ds) : builtin .len [x] h = .ok (.int ds.length) h := by
  show (match itemsOf h x with | some ds => R.ok (.int ds.length) h | none => .no) = _
  rw [e]
@[simp] theorem bi_lenT (ds : List D) (h : Hh) : builtin .len [.tup ds] h = .ok (.int ds.length) h := rfl
@[simp] theorem bi_intI (i : Int) (h : Hh) : builtin .int [.int i] h = .ok (.int i) h := rfl
@[simp] theorem bi_intB (b : Bool) (h : Hh) : builtin .int [.bl b] h = .ok (.int (if b then 1 else 0)) h := rfl
@[simp] theorem bi_abs (i : Int) (h : Hh) : builtin .abs [.int i] h = .ok (.int (if i < 0 then -i else i)) h := rfl
@[simp] theorem bi_max (i j : Int) (h : Hh) : builtin .max2 [.int i, .int j] h = .ok (.int (if j > i then j else i)) h := rfl
@[simp] theorem bi_min (i j : Int) (h : Hh) : builtin .min2 [.int i, .int j] h = .ok (.int (if j < i then j else i)) h := rfl
theorem bi_tuple {a : Nat} {ds : List D} {h : Hh} (e : h[a]? = some ds) : builtin .tuple [.ptr a] h = .ok (mkT ds) h := by
  show (match h[a]? with | some ds => R.ok (mkT ds) h | none => .no) = _
  rw [e]
@[simp] theorem bi_tupleT (ds : List D) (h : Hh) : builtin .tuple [.tup ds] h = .ok (.tup ds) h := rfl
@[simp] theorem bi_listT (ds : List D) (h : Hh) : builtin .list [.tup ds] h = newL h ds := rfl
theorem bi_all {a : Nat} {ds : List D} {bs : List Bool} {h : Hh} (e : h[a]? = some ds) (e2 : bls ds = some bs) : builtin .all [.ptr a] h = .ok (.bl (bs.all id)) h := by
  show (match h[a]? with | some ds => (match bls ds with | some bs => R.ok (.bl (bs.all id)) h | none => .no) | none => .no) = _
  rw [e]
  dsimp only
  rw [e2]
@[simp] theorem cmp_in (x y : D) (h : Hh) : cmpop .inn x y h = oB (memH h x y) (fun b => b) h := rfl
/-! == of rows of ints -/
theorem mapO_intL (h : Hh) (n : Nat) (xs : List Int) : mapO (py h (n + 1)) (intL xs) = some (xs.map PyData.int) := by
  induction xs with
  | nil => rfl
  | cons x xs ih =>
    show (match some (PyData.int x) with | some p => (match mapO (py h (n + 1)) (intL xs) with | some ps => some (p :: ps) | none => none) | none => none) = _
    rw [ih]
    rfl
theorem py_tup (h : Hh) (n : Nat) (xs : List Int) : py h (n + 2) (.tup (intL xs)) = some (.tuple (xs.map PyData.int)) := by
  show (match mapO (py h (n + 1)) (intL xs) with | some ps => some (PyData.tuple ps) | none => none) = _
  rw [mapO_intL]
theorem bls_map {α : Type} (f : α → Bool) (xs : List α) : bls (xs.map fun x => D.bl (f x)) = some (xs.map f) := by
  induction xs with
  | nil => rfl
  | cons x xs ih =>
    show (match bls (xs.map fun x => D.bl (f x)) with | some bs => some (f x :: bs) | none => none) = _
    rw [ih]
    rfl
@[simp] theorem negK_int (i : Int) (h : Hh) : negK (.int i) h = .ok (.int (-i)) h := rfl
@[simp] theorem poK_int (i : Int) (h : Hh) : poK (.int i) h = .ok (.int i) h := rfl
theorem index_at {x d : D} {k : Int} {j : Nat} {ds : List D} {h : Hh} (e : itemsOf h x = some ds) (e2 : ixN ds.length k = some j) (e3 : ds[j]? = some d) : index x (.int k) h = .ok d h := by
  show (match itemsOf h x with | some ds => (match ixN ds.length k with | some j => (match ds[j]? with | some d => R.ok d h | none => .no) | none => .no) | none => .no) = _
  rw [e]
  dsimp only
  rw [e2]
  dsimp only
  rw [e3]
theorem ixN_nat {n j : Nat} (h : j < n) : ixN n (j : Int) = some j := by
  show (match Nat.blt j n with | true => some j | false => none) = _
  rw [Nat.blt_eq.mpr h]
theorem ixN_last {n : Nat} : ixN (n + 1) (-1) = some n := by
  show (match Nat.blt 0 (n + 1) with | true => some (n + 1 - (0 + 1)) | false => none) = _
  rw [Nat.blt_eq.mpr (Nat.succ_pos n)]
  rfl
theorem index_last {x : D} {xs : List Int} {y : Int} {h : Hh} (e : itemsOf h x = some (intL (xs ++ [y]))) : index x (.int (-1)) h = .ok (.int y) h :=
  index_at e (by rw [intL_len, List.length_append]; exact ixN_last) (by rw [intL_get]; simp)
theorem index_nat {x : D} {xs : List Int} {j : Nat} {y : Int} {h : Hh} (e : itemsOf h x = some (intL xs)) (ej : xs[j]? = some y) : index x (.int (j : Int)) h = .ok (.int y) h :=
  index_at e (ixN_nat (by rw [intL_len]; exact (List.getElem?_eq_some_iff.mp ej).1)) (by rw [intL_get, ej]; rfl)
theorem popK_last {a : Nat} {xs : List Int} {y : Int} {h : Hh} (e : h[a]? = some (intL (xs ++ [y]))) : popK (.ptr a) h = .ok (.int y) (h.set a (intL xs)) := by
  have e1 : (intL (xs ++ [y])).getLast? = some (.int y) := by rw [← intL_app]; show (intL xs ++ [D.int y]).getLast? = _; simp
  have e2 : (intL (xs ++ [y])).dropLast = intL xs := by rw [← intL_app]; show (intL xs ++ [D.int y]).dropLast = _; simp
  show (match h[a]? with | some ds => (match ds.getLast? with | some d => R.ok d (h.set a ds.dropLast) | none => .no) | none => .no) = _
  rw [e]
  dsimp only
  rw [e1, e2]
theorem sqK_of {x : D} {ds : List D} {h : Hh} (e : itemsOf h x = some ds) : sqK x h = .osr (.sq x) h := by
  unfold sqK
  rw [e]
theorem enK_of {x : D} {ds : List D} {h : Hh} (e : itemsOf h x = some ds) : enK x h = .osr (.en x) h := by
  unfold enK
  rw [e]
theorem zpK_of {x y : D} {ds es : List D} {h : Hh} (e : itemsOf h x = some ds) (e2 : itemsOf h y = some es) : zpK x y h = .osr (.zp x y) h := by
  unfold zpK
  rw [e, e2]
theorem src_sq {x : D} {ds : List D} {h : Hh} (e : itemsOf h x = some ds) (i : Nat) : srcAt h (.sq x) i = some ds[i]? := by
  show (match itemsOf h x with | some ds => some ds[i]? | none => none) = _
  rw [e]
theorem src_zp {x y : D} {xs ys : List Int} {h : Hh} (e : itemsOf h x = some (intL xs)) (e2 : itemsOf h y = some (intL ys)) (hl : xs.length = ys.length) (i : Nat) (hi : i ≤ xs.length) :
    srcAt h (.zp x y) i = some (((xs.zip ys).map fun q => D.tup [.int q.1, .int q.2])[i]?) := by
  show (match itemsOf h x, itemsOf h y with
    | some ds, some es => (match ds[i]?, es[i]? with
      | some x, some y => some (some (mkT [x, y]))
      | _, _ => (match Nat.ble i ds.length && Nat.ble i es.length with
        | true => some none
        | false => none))
    | _, _ => none) = _
  rw [e, e2]
  dsimp only
  rcases Nat.lt_or_ge i xs.length with h1 | h1
  · have h2 : i < ys.length := by omega
    rw [intL_get, intL_get, List.getElem?_eq_getElem h1, List.getElem?_eq_getElem h2]
    simp only [Option.map_some]
    rw [List.getElem?_map, List.getElem?_eq_getElem (by rw [List.length_zip]; omega)]
    simp [mkT]
  · have h3 : i = xs.length := by omega
    rw [intL_get, intL_get, List.getElem?_eq_none h1, List.getElem?_eq_none (by omega)]
    simp only [Option.map_none]
    rw [List.getElem?_eq_none (by rw [List.length_map, List.length_zip]; omega), intL_len, intL_len]
    have : (Nat.ble i xs.length && Nat.ble i ys.length) = true := by rw [Bool.and_eq_true, Nat.ble_eq, Nat.ble_eq]; omega
    rw [this]
theorem src_en {x : D} {xs : List Int} {h : Hh} (e : itemsOf h x = some (intL xs)) (i : Nat) {y : Int} (hy : xs[i]? = some y) : srcAt h (.en x) i = some (some (.tup [.int (i : Int), .int y])) := by
  show (match itemsOf h x with
    | some ds => (match ds[i]? with
      | some x => some (some (mkT [.int (i : Int), x]))
      | none => (match Nat.beq i ds.length with
        | true => some none
        | false => none))
    | none => none) = _
  rw [e]
  dsimp only
  rw [intL_get, hy]
  rfl
theorem src_en_end {x : D} {xs : List Int} {h : Hh} (e : itemsOf h x = some (intL xs)) : srcAt h (.en x) xs.length = some none := by
  show (match itemsOf h x with
    | some ds => (match ds[xs.length]? with
      | some x => some (some (mkT [.int (xs.length : Int), x]))
      | none => (match Nat.beq xs.length ds.length with
        | true => some none
        | false => none))
    | none => none) = _
  rw [e]
  dsimp only
  rw [intL_get, List.getElem?_eq_none (Nat.le_refl _), intL_len]
  have : Nat.beq xs.length xs.length = true := Nat.beq_refl _
  simp only [Option.map_none]
  rw [this]
/-- a comprehension of ints over ints -/
theorem lc_ints {s : Src} {f : D → Hh → R} {h : Hh} (xs : List Int) (g : Int → Int) (hs : ∀ i, i ≤ xs.length → srcAt h s i = some (intL xs)[i]?) (hf : ∀ x ∈ xs, f (.int x) h = .ok (.int (g x)) h) (hl : xs.length < 1000000) :
    loopC s f turns 0 [] h = .oks (intL (xs.map g)) h := by
  rw [loopC_map (fun d => match d with | .int x => .int (g x) | d => d) (intL xs) (fun i hi => hs i (by simpa using hi)) (fun d hd => by
    obtain ⟨x, hx, rfl⟩ := List.mem_map.mp hd
    exact hf x hx) (by simpa using hl)]
  congr 1
  unfold intL
  rw [List.map_map, List.map_map]
  rfl
end Ev.Rx
-- Pm
/-! Pm: polynomials as lists of ints, read modulo a prime -/
namespace Pm
abbrev Fn := Nat → Int
def sh (f : Fn) : Fn
  | 0 => 0
  | k + 1 => f k
def co (xs : List Int) : Fn := fun k => xs.getD k 0
def mulF : List Int → Fn → Fn
  | [], _ => fun _ => 0
  | x :: xs, f => fun k => x * f k + sh (mulF xs f) k
def one1 : Fn
  | 0 => 1
  | _ + 1 => 0
theorem sh_congr {f g : Fn} (h : ∀ k, f k = g k) (k : Nat) : sh f k = sh g k := by
  cases k with
  | zero => rfl
  | succ k => exact h k
theorem mulF_lin (c d : Int) (f g : Fn) : ∀ (xs : List Int) (k : Nat), mulF xs (fun k => c * f k + d * g k) k = c * mulF xs f k + d * mulF xs g k
  | [], k => by simp [mulF]
  | x :: xs, k => by
    show x * (c * f k + d * g k) + sh (mulF xs fun k => c * f k + d * g k) k = c * (x * f k + sh (mulF xs f) k) + d * (x * g k + sh (mulF xs g) k)
    cases k with
    | zero => simp only [sh]; grind
    | succ k => simp only [sh]; rw [mulF_lin c d f g xs k]; grind
theorem mulF_sh (f : Fn) : ∀ (xs : List Int) (k : Nat), mulF xs (sh f) k = sh (mulF xs f) k
  | [], k => by cases k <;> rfl
  | x :: xs, k => by
    cases k with
    | zero => simp [mulF, sh]
    | succ k =>
      show x * f k + sh (mulF xs (sh f)) (k + 1) = x * f k + sh (mulF xs f) k
      rw [show sh (mulF xs (sh f)) (k + 1) = mulF xs (sh f) k from rfl, mulF_sh f xs k]
theorem mulF_ext {f g : Fn} (h : ∀ k, f k = g k) (xs : List Int) (k : Nat) : mulF xs f k = mulF xs g k := by
  rw [show f = g from funext h]
theorem mulF_comm (f : Fn) : ∀ (xs ys : List Int) (k : Nat), mulF xs (mulF ys f) k = mulF ys (mulF xs f) k
  | [], ys, k => by
    have h : ∀ (ys : List Int) k, mulF ys (fun _ => 0) k = 0 := by
      intro ys
      induction ys with
      | nil => intro k; rfl
      | cons y ys ih => intro k; cases k with
        | zero => simp [mulF, sh]
        | succ k => simp [mulF, sh, ih]
    exact (h ys k).symm
  | x :: xs, ys, k => by
    have e1 : mulF (x :: xs) (mulF ys f) k = x * mulF ys f k + sh (mulF xs (mulF ys f)) k := rfl
    have e2 : mulF ys (mulF (x :: xs) f) k = mulF ys (fun k => x * f k + 1 * sh (mulF xs f) k) k := mulF_ext (fun k => by show x * f k + sh (mulF xs f) k = _; rw [Int.one_mul]) ys k
    rw [e1, e2, mulF_lin, mulF_sh, Int.one_mul]
    rw [sh_congr (fun k => mulF_comm f xs ys k) k]
theorem co_cons (x : Int) (xs : List Int) (k : Nat) : co (x :: xs) k = x * one1 k + sh (co xs) k := by
  cases k with
  | zero => simp [co, one1, sh]
  | succ k => simp [co, one1, sh]
theorem co_mul : ∀ (xs : List Int) (k : Nat), co xs k = mulF xs one1 k
  | [], k => by simp [co, mulF]
  | x :: xs, k => by
    rw [co_cons]
    show _ = x * one1 k + sh (mulF xs one1) k
    rw [sh_congr (fun k => co_mul xs k) k]
theorem mul_co (xs ys : List Int) (k : Nat) : mulF xs (co ys) k = mulF ys (co xs) k := by
  rw [mulF_ext (co_mul ys) xs k, mulF_comm, mulF_ext (fun k => (co_mul xs k).symm) ys k]
/-- a list and a number times another one -/
def addS (c : Int) : List Int → List Int → List Int
  | [], ys => ys.map (c * ·)
  | x :: xs, [] => x :: xs
  | x :: xs, y :: ys => (x + c * y) :: addS c xs ys
theorem mulF_map (c : Int) (f : Fn) : ∀ (ys : List Int) (k : Nat), mulF (ys.map (c * ·)) f k = c * mulF ys f k
  | [], k => by simp [mulF]
  | y :: ys, k => by
    show c * y * f k + sh (mulF (ys.map (c * ·)) f) k = c * (y * f k + sh (mulF ys f) k)
    cases k with
    | zero => simp only [sh]; grind
    | succ k => simp only [sh]; rw [mulF_map c f ys k]; grind
theorem mulF_addS (c : Int) (f : Fn) : ∀ (xs ys : List Int) (k : Nat), mulF (addS c xs ys) f k = mulF xs f k + c * mulF ys f k
  | [], ys, k => by
    show mulF (ys.map (c * ·)) f k = 0 + c * mulF ys f k
    rw [mulF_map, Int.zero_add]
  | x :: xs, [], k => by
    show mulF (x :: xs) f k = mulF (x :: xs) f k + c * 0
    grind
  | x :: xs, y :: ys, k => by
    show (x + c * y) * f k + sh (mulF (addS c xs ys) f) k = (x * f k + sh (mulF xs f) k) + c * (y * f k + sh (mulF ys f) k)
    cases k with
    | zero => simp only [sh]; grind
    | succ k => simp only [sh]; rw [mulF_addS c f xs ys k]; grind
def mulL : List Int → List Int → List Int
  | [], _ => []
  | x :: xs, ys => addS x (0 :: mulL xs ys) ys
theorem mulF_mulL (f : Fn) : ∀ (xs ys : List Int) (k : Nat), mulF (mulL xs ys) f k = mulF xs (mulF ys f) k
  | [], ys, k => rfl
  | x :: xs, ys, k => by
    show mulF (addS x (0 :: mulL xs ys) ys) f k = x * mulF ys f k + sh (mulF xs (mulF ys f)) k
    rw [mulF_addS]
    show (0 * f k + sh (mulF (mulL xs ys) f) k) + x * mulF ys f k = _
    rw [sh_congr (fun k => mulF_mulL f xs ys k) k]
    grind
/-! modulo p -/
def Eqm (p : Int) (f g : Fn) : Prop := ∀ k, p ∣ f k - g k
section
variable {p : Int}
theorem Eqm.refl (f : Fn) : Eqm p f f := fun k => by rw [Int.sub_self]; exact Int.dvd_zero p
theorem Eqm.of (f g : Fn) (h : ∀ k, f k = g k) : Eqm p f g := fun k => by rw [h k, Int.sub_self]; exact Int.dvd_zero p
theorem Eqm.symm {f g : Fn} (h : Eqm p f g) : Eqm p g f := fun k => by
  obtain ⟨c, e⟩ := h k
  exact ⟨-c, by grind⟩
theorem Eqm.trans {f g h : Fn} (a : Eqm p f g) (b : Eqm p g h) : Eqm p f h := fun k => by
  obtain ⟨c, e⟩ := a k
  obtain ⟨d, e2⟩ := b k
  exact ⟨c + d, by grind⟩
theorem Eqm.lin {f f' g g' : Fn} (c : Int) (a : Eqm p f f') (b : Eqm p g g') : Eqm p (fun k => f k + c * g k) (fun k => f' k + c * g' k) := fun k => by
  obtain ⟨u, e⟩ := a k
  obtain ⟨v, e2⟩ := b k
  exact ⟨u + c * v, by grind⟩
theorem Eqm.mul {f g : Fn} (h : Eqm p f g) : ∀ (xs : List Int), Eqm p (mulF xs f) (mulF xs g)
  | [] => Eqm.refl _
  | x :: xs => fun k => by
    have ih := Eqm.mul h xs
    show p ∣ (x * f k + sh (mulF xs f) k) - (x * g k + sh (mulF xs g) k)
    obtain ⟨u, e⟩ := h k
    cases k with
    | zero => exact ⟨x * u, by simp only [sh]; grind⟩
    | succ k =>
      obtain ⟨v, e2⟩ := ih k
      exact ⟨x * u + v, by simp only [sh]; grind⟩
/-- Euclid's law for p -/
structure Pr (p : Int) : Prop where
  gt : 1 < p
  pr : ∀ a b : Int, p ∣ a * b → p ∣ a ∨ p ∣ b
theorem mulF_zero {t : Fn} {d : Nat} (h : Pr p) (h1 : ∀ k, d < k → p ∣ t k) (h2 : ¬ p ∣ t d) : ∀ xs : List Int, (∀ k, d ≤ k → p ∣ mulF xs t k) → ∀ x ∈ xs, p ∣ x
  | [], _, x, hx => by cases hx
  | y :: xs, hz, x, hx => by
    have ih := mulF_zero h h1 h2 xs fun k hk => by
      have z : p ∣ y * t (k + 1) + mulF xs t k := hz (k + 1) (by omega)
      have w : p ∣ y * t (k + 1) := Int.dvd_trans (h1 (k + 1) (by omega)) (Int.dvd_mul_left ..)
      exact (Int.dvd_add_right w).mp z
    have zero : ∀ (xs : List Int), (∀ x ∈ xs, p ∣ x) → ∀ k, p ∣ mulF xs t k := by
      intro xs
      induction xs with
      | nil => intro _ k; exact Int.dvd_zero p
      | cons a as iha =>
        intro hh k
        refine Int.dvd_add (Int.dvd_trans (hh a (List.mem_cons_self ..)) (Int.dvd_mul_right ..)) ?_
        cases k with
        | zero => exact Int.dvd_zero p
        | succ k => exact iha (fun b hb => hh b (List.mem_cons_of_mem _ hb)) k
    rcases List.mem_cons.mp hx with e | e
    · subst e
      have z : p ∣ x * t d + sh (mulF xs t) d := hz d (Nat.le_refl _)
      have w : p ∣ sh (mulF xs t) d := by
        cases d with
        | zero => exact Int.dvd_zero p
        | succ d => exact zero xs ih d
      rcases h.pr _ _ ((Int.dvd_add_left w).mp z) with u | u
      · exact u
      · exact absurd u h2
    · exact ih x e
theorem mulF_dvd {t : Fn} : ∀ (xs : List Int), (∀ x ∈ xs, p ∣ x) → ∀ k, p ∣ mulF xs t k
  | [], _, k => Int.dvd_zero p
  | a :: as, hh, k => by
    refine Int.dvd_add (Int.dvd_trans (hh a (List.mem_cons_self ..)) (Int.dvd_mul_right ..)) ?_
    cases k with
    | zero => exact Int.dvd_zero p
    | succ k => exact mulF_dvd as (fun b hb => hh b (List.mem_cons_of_mem _ hb)) k
/-! normal forms -/
def trim : List Int → List Int
  | [] => []
  | x :: xs => match trim xs with
    | [] => if x = 0 then [] else [x]
    | y :: ys => x :: y :: ys
theorem trim_nil_iff : ∀ (xs : List Int), trim xs = [] ↔ ∀ k, co xs k = 0
  | [] => ⟨fun _ k => by simp [co], fun _ => rfl⟩
  | x :: xs => by
    have ih := trim_nil_iff xs
    unfold trim
    constructor
    · intro h k
      cases e : trim xs with
      | nil =>
        rw [e] at h
        have : x = 0 := by
          by_cases hx : x = 0
          · exact hx
          · simp [hx] at h
        cases k with
        | zero => simpa [co] using this
        | succ k => have := ih.mp e k; simpa [co] using this
      | cons y ys => rw [e] at h; cases h
    · intro h
      have e := ih.mpr fun k => by have := h (k + 1); simpa [co] using this
      have h0 : x = 0 := by simpa [co] using h 0
      rw [e, h0]
      rfl
theorem trim_ext : ∀ (xs ys : List Int), (∀ k, co xs k = co ys k) → trim xs = trim ys
  | [], ys, h => by rw [show trim [] = [] from rfl, (trim_nil_iff ys).mpr fun k => by rw [← h k]; simp [co]]
  | x :: xs, [], h => by rw [show trim [] = [] from rfl, (trim_nil_iff (x :: xs)).mpr fun k => by rw [h k]; simp [co]]
  | x :: xs, y :: ys, h => by
    have e : trim xs = trim ys := trim_ext xs ys fun k => by have := h (k + 1); simpa [co] using this
    have e0 : x = y := by simpa [co] using h 0
    unfold trim
    rw [e, e0]
theorem co_trim : ∀ (xs : List Int) (k : Nat), co (trim xs) k = co xs k
  | [], k => rfl
  | x :: xs, k => by
    have ih := co_trim xs
    unfold trim
    cases e : trim xs with
    | nil =>
      rw [e] at ih
      have z : ∀ k, co xs k = 0 := fun k => by rw [← ih k]; simp [co]
      by_cases hx : x = 0
      · subst hx
        cases k with
        | zero => simp [co]
        | succ k => have := z k; simp [co] at this ⊢; exact this.symm
      · simp only [hx, if_false]
        cases k with
        | zero => simp [co]
        | succ k => have := z k; simp [co] at this ⊢; exact this.symm
    | cons y ys =>
      rw [e] at ih
      cases k with
      | zero => simp [co]
      | succ k => have := ih k; simpa [co] using this
theorem trim_trim (xs : List Int) : trim (trim xs) = trim xs := trim_ext _ _ (co_trim xs)
theorem trim_mem : ∀ (xs : List Int) (x : Int), x ∈ trim xs → x ∈ xs
  | [], x, h => h
  | y :: xs, x, h => by
    unfold trim at h
    cases e : trim xs with
    | nil =>
      rw [e] at h
      by_cases hy : y = 0
      · simp [hy] at h
      · simp [hy] at h; subst h; exact List.mem_cons_self ..
    | cons z zs =>
      rw [e] at h
      rcases List.mem_cons.mp h with q | q
      · subst q; exact List.mem_cons_self ..
      · exact List.mem_cons_of_mem _ (trim_mem xs x (by rw [e]; exact q))
theorem trim_length : ∀ (xs : List Int), (trim xs).length ≤ xs.length
  | [] => Nat.le_refl _
  | y :: xs => by
    have ih := trim_length xs
    unfold trim
    cases e : trim xs with
    | nil => by_cases hy : y = 0 <;> simp [hy]
    | cons z zs => rw [e] at ih; simp at ih ⊢; omega
theorem co_ge {xs : List Int} {k : Nat} (h : xs.length ≤ k) : co xs k = 0 := by
  simp [co, List.getD_eq_getElem?_getD, List.getElem?_eq_none h]
theorem trim_lt {n : Nat} : ∀ (xs : List Int), (∀ k, n ≤ k → co xs k = 0) → (trim xs).length ≤ n := by
  induction n with
  | zero => intro xs h; rw [(trim_nil_iff xs).mpr fun k => h k (Nat.zero_le _)]; exact Nat.le_refl _
  | succ n ih =>
    intro xs h
    cases xs with
    | nil => exact Nat.zero_le _
    | cons x xs =>
      have q := ih xs fun k hk => by have := h (k + 1) (by omega); simpa [co] using this
      unfold trim
      cases e : trim xs with
      | nil => by_cases hy : x = 0 <;> simp [hy]
      | cons z zs => rw [e] at q; simp at q ⊢; omega
/-- the last number of a normal form is not 0 -/
theorem trim_last : ∀ (xs : List Int), trim xs = xs → xs ≠ [] → co xs (xs.length - 1) ≠ 0
  | [], _, h => absurd rfl h
  | [x], h, _ => by
    intro e
    have : x = 0 := by simpa [co] using e
    subst this
    cases h
  | x :: y :: ys, h, _ => by
    have e : trim (y :: ys) = y :: ys := by
      unfold trim at h
      cases q : trim (y :: ys) with
      | nil =>
        rw [q] at h
        by_cases hx : x = 0 <;> simp [hx] at h
      | cons z zs => rw [q] at h; exact (List.cons.inj h).2
    have := trim_last (y :: ys) e (fun z => by cases z)
    simpa [co] using this
def red (p : Int) (xs : List Int) : List Int := xs.map (· % p)
theorem co_red (xs : List Int) (k : Nat) : co (red p xs) k = co xs k % p := by
  unfold co red
  rw [List.getD_eq_getElem?_getD, List.getD_eq_getElem?_getD, List.getElem?_map]
  cases xs[k]? <;> simp
def nf (p : Int) (xs : List Int) : List Int := trim (red p xs)
structure Nf (p : Int) (xs : List Int) : Prop where
  rs : ∀ x ∈ xs, 0 ≤ x ∧ x < p
  tr : trim xs = xs
theorem Nf.nil : Nf p [] := ⟨(fun _ h => by cases h), rfl⟩
theorem nf_ok (hp : 0 < p) (xs : List Int) : Nf p (nf p xs) := ⟨fun x hx => by
  have h := trim_mem _ _ hx
  unfold red at h
  obtain ⟨y, _, rfl⟩ := List.mem_map.mp h
  exact ⟨Int.emod_nonneg _ (by omega), Int.emod_lt_of_pos _ hp⟩, trim_trim _⟩
theorem nf_trim (hp : 0 < p) {xs : List Int} (h : ∀ x ∈ xs, 0 ≤ x ∧ x < p) : Nf p (trim xs) := ⟨fun x hx => h x (trim_mem _ _ hx), trim_trim _⟩
theorem dvd_mod (p a : Int) : p ∣ a % p - a := by
  have := Int.emod_add_mul_ediv a p
  exact ⟨-(a / p), by grind⟩
theorem nf_eqm (xs : List Int) : Eqm p (co (nf p xs)) (co xs) := fun k => by
  unfold nf
  rw [co_trim, co_red]
  exact dvd_mod p _
theorem co_range {xs : List Int} (hp : 0 < p) (h : ∀ x ∈ xs, 0 ≤ x ∧ x < p) (k : Nat) : 0 ≤ co xs k ∧ co xs k < p := by
  unfold co
  rw [List.getD_eq_getElem?_getD]
  cases e : xs[k]? with
  | none => simp; exact hp
  | some x => simpa using h x (List.mem_of_getElem? e)
theorem eq_of_dvd {a b : Int} (ha : 0 ≤ a ∧ a < p) (hb : 0 ≤ b ∧ b < p) (h : p ∣ a - b) : a = b := by
  have h1 := Int.emod_eq_emod_iff_emod_sub_eq_zero (m := a) (n := p) (k := b)
  have h2 := h1.mpr (Int.emod_eq_zero_of_dvd h)
  rw [Int.emod_eq_of_lt ha.1 ha.2, Int.emod_eq_of_lt hb.1 hb.2] at h2
  exact h2
theorem Nf.ext (hp : 0 < p) {xs ys : List Int} (hx : Nf p xs) (hy : Nf p ys) (h : Eqm p (co xs) (co ys)) : xs = ys := by
  rw [← hx.tr, ← hy.tr]
  exact trim_ext _ _ fun k => eq_of_dvd (co_range hp hx.rs k) (co_range hp hy.rs k) (h k)
theorem nf_self (hp : 0 < p) {xs : List Int} (hx : Nf p xs) : nf p xs = xs := (nf_ok hp xs).ext hp hx (nf_eqm xs)
theorem nf_congr (hp : 0 < p) {xs ys : List Int} (h : Eqm p (co xs) (co ys)) : nf p xs = nf p ys := (nf_ok hp xs).ext hp (nf_ok hp ys) ((nf_eqm xs).trans (h.trans (nf_eqm ys).symm))
/-! division -/
structure Divs (p : Int) (a b q r : List Int) : Prop where
  qn : Nf p q
  rn : Nf p r
  lt : r.length < b.length
  eq : Eqm p (co a) (fun k => mulF q (co b) k + 1 * co r k)
theorem lead_nd (h : Pr p) {b : List Int} (hb : Nf p b) (nb : b ≠ []) : ¬ p ∣ co b (b.length - 1) := fun hd => by
  have hp : 0 < p := by have := h.gt; omega
  have := co_range hp hb.rs (b.length - 1)
  exact trim_last b hb.tr nb (eq_of_dvd this ⟨Int.le_refl _, hp⟩ (by rw [Int.sub_zero]; exact hd))
theorem Divs.uniq (h : Pr p) {a b q r q' r' : List Int} (hb : Nf p b) (nb : b ≠ []) (d : Divs p a b q r) (d' : Divs p a b q' r') : q = q' ∧ r = r' := by
  have hp : 0 < p := by have := h.gt; omega
  have lb := List.length_pos_iff.mpr nb
  have key : ∀ k, p ∣ mulF (addS (-1) q q') (co b) k - (co r' k - co r k) := fun k => by
    rw [mulF_addS]
    obtain ⟨u, e⟩ := d.eq k
    obtain ⟨v, e'⟩ := d'.eq k
    exact ⟨v - u, by dsimp only at e e'; grind⟩
  have z := mulF_zero h (t := co b) (d := b.length - 1) (fun k hk => by rw [co_ge (by omega)]; exact Int.dvd_zero p) (lead_nd h hb nb) (addS (-1) q q') fun k hk => by
    have := key k
    rw [co_ge (xs := r') (by have := d'.lt; omega), co_ge (xs := r) (by have := d.lt; omega)] at this
    simpa using this
  have z0 := fun f k => mulF_dvd (t := f) _ z k
  refine ⟨d.qn.ext hp d'.qn fun k => ?_, d.rn.ext hp d'.rn fun k => ?_⟩
  · rw [co_mul, co_mul]
    have := z0 one1 k
    rw [mulF_addS] at this
    rw [show mulF q one1 k - mulF q' one1 k = mulF q one1 k + -1 * mulF q' one1 k by grind]
    exact this
  · obtain ⟨u, e⟩ := key k
    obtain ⟨v, e'⟩ := z0 (co b) k
    exact ⟨u - v, by grind⟩
/-- what divides -/
def Dv (p : Int) (t a : List Int) : Prop := ∃ xs, Eqm p (co a) (mulF xs (co t))
theorem Dv.rest (h : Pr p) {a b q r : List Int} (hb : Nf p b) (nb : b ≠ []) (d : Divs p a b q r) (v : Dv p b a) : r = [] := by
  have hp : 0 < p := by have := h.gt; omega
  obtain ⟨xs, e⟩ := v
  have d' : Divs p a b (nf p xs) [] := ⟨nf_ok hp xs, .nil, List.length_pos_iff.mpr nb, fun k => by
    have e1 : Eqm p (mulF xs (co b)) (mulF (nf p xs) (co b)) := fun k => by
      rw [mul_co xs b, mul_co (nf p xs) b]
      exact Eqm.mul (nf_eqm xs).symm b k
    have := (Eqm.trans e e1) k
    simpa [co] using this⟩
  exact (d.uniq h hb nb d').2
/-- a divisor of both divides the rest -/
theorem Dv.step {t a b q r : List Int} (d : Divs p a b q r) (ha : Dv p t a) (hb : Dv p t b) : Dv p t r := by
  obtain ⟨xs, ea⟩ := ha
  obtain ⟨ys, eb⟩ := hb
  refine ⟨addS (-1) xs (mulL q ys), fun k => ?_⟩
  rw [mulF_addS, mulF_mulL]
  obtain ⟨u, e1⟩ := d.eq k
  obtain ⟨v, e2⟩ := ea k
  obtain ⟨w, e3⟩ := Eqm.mul eb q k
  exact ⟨v - u - w, by dsimp only at e1; grind⟩
theorem Dv.scale {t a : List Int} (c : Int) (ha : Dv p t a) : Dv p t (a.map fun x => c * x % p) := by
  obtain ⟨xs, ea⟩ := ha
  refine ⟨xs.map (c * ·), fun k => ?_⟩
  rw [mulF_map]
  have e : co (a.map fun x => c * x % p) k = (c * co a k) % p := by
    unfold co
    rw [List.getD_eq_getElem?_getD, List.getD_eq_getElem?_getD, List.getElem?_map]
    cases a[k]? <;> simp
  rw [e]
  obtain ⟨u, e1⟩ := ea k
  obtain ⟨v, e2⟩ := dvd_mod p (c * co a k)
  exact ⟨v + c * u, by grind⟩
theorem Dv.nil {t : List Int} : Dv p t [] := ⟨[], fun k => by simp [co, mulF]⟩
end
def primes : List Int := [2, 3, 5, 7]
theorem pr_of {p : Int} (h : p ∈ primes) : Pr p := by
  have e : p = 2 ∨ p = 3 ∨ p = 5 ∨ p = 7 := by simpa [primes] using h
  refine ⟨by omega, fun a b hd => ?_⟩
  have hp : 0 < p := by omega
  have m := Int.emod_eq_zero_of_dvd hd
  rw [Int.mul_emod] at m
  have a1 := Int.emod_nonneg a (show p ≠ 0 by omega)
  have a2 := Int.emod_lt_of_pos a hp
  have b1 := Int.emod_nonneg b (show p ≠ 0 by omega)
  have b2 := Int.emod_lt_of_pos b hp
  have q : a % p = 0 ∨ b % p = 0 := by
    generalize a % p = x at *
    generalize b % p = y at *
    clear hd
    rcases e with rfl | rfl | rfl | rfl
    · have hx : x = 0 ∨ x = 1 := by omega
      rcases hx with rfl | rfl <;> omega
    · have hx : x = 0 ∨ x = 1 ∨ x = 2 := by omega
      rcases hx with rfl | rfl | rfl <;> omega
    · have hx : x = 0 ∨ x = 1 ∨ x = 2 ∨ x = 3 ∨ x = 4 := by omega
      rcases hx with rfl | rfl | rfl | rfl | rfl <;> omega
    · have hx : x = 0 ∨ x = 1 ∨ x = 2 ∨ x = 3 ∨ x = 4 ∨ x = 5 ∨ x = 6 := by omega
      rcases hx with rfl | rfl | rfl | rfl | rfl | rfl | rfl <;> omega
  rcases q with q | q
  · exact .inl (Int.dvd_of_emod_eq_zero q)
  · exact .inr (Int.dvd_of_emod_eq_zero q)
end Pm
-- Pq
/-! Pq: sums, products, quotients and divisors of polynomials modulo a prime -/
namespace Pm
section
variable {p : Int}
theorem co_addS (c : Int) (xs ys : List Int) (k : Nat) : co (addS c xs ys) k = co xs k + c * co ys k := by
  rw [co_mul, mulF_addS, ← co_mul, ← co_mul]
theorem co_mulL (xs ys : List Int) (k : Nat) : co (mulL xs ys) k = mulF xs (co ys) k := by
  rw [co_mul, mulF_mulL]
  exact mulF_ext (fun k => (co_mul ys k).symm) xs k
theorem addS_len (c : Int) : ∀ (xs ys : List Int), (addS c xs ys).length = max xs.length ys.length
  | [], ys => by simp [addS]
  | x :: xs, [] => by simp [addS]
  | x :: xs, y :: ys => by simp [addS, addS_len c xs ys]
theorem mulL_len : ∀ (xs ys : List Int), (mulL xs ys).length ≤ xs.length + ys.length
  | [], ys => by simp [mulL]
  | x :: xs, ys => by
    have := mulL_len xs ys
    simp [mulL, addS_len] <;> omega
theorem nf_len (xs : List Int) : (nf p xs).length ≤ xs.length := by
  have := trim_length (red p xs)
  unfold nf
  simpa [red] using this
/-- a sum -/
def addP (p c : Int) (xs ys : List Int) : List Int := nf p (addS c xs ys)
/-- a product -/
def mulP (p : Int) (xs ys : List Int) : List Int := nf p (mulL xs ys)
theorem addP_ok (hp : 0 < p) (c : Int) (xs ys : List Int) : Nf p (addP p c xs ys) := nf_ok hp _
theorem mulP_ok (hp : 0 < p) (xs ys : List Int) : Nf p (mulP p xs ys) := nf_ok hp _
theorem addP_len (c : Int) (xs ys : List Int) : (addP p c xs ys).length ≤ max xs.length ys.length := by
  rw [← addS_len c xs ys]
  exact nf_len _
theorem mulP_len (xs ys : List Int) : (mulP p xs ys).length ≤ xs.length + ys.length := Nat.le_trans (nf_len _) (mulL_len xs ys)
theorem addP_co (c : Int) (xs ys : List Int) : Eqm p (co (addP p c xs ys)) (fun k => co xs k + c * co ys k) :=
  (nf_eqm _).trans (Eqm.of _ _ (co_addS c xs ys))
theorem mulP_co (xs ys : List Int) : Eqm p (co (mulP p xs ys)) (mulF xs (co ys)) :=
  (nf_eqm _).trans (Eqm.of _ _ (co_mulL xs ys))
theorem mulP_comm (hp : 0 < p) (xs ys : List Int) : mulP p xs ys = mulP p ys xs :=
  nf_congr hp (Eqm.of _ _ fun k => by rw [co_mulL, co_mulL, mul_co])
theorem addP_back (hp : 0 < p) {c d : Int} (e : c + d = 0) {xs : List Int} (hx : Nf p xs) (ys : List Int) : addP p d (addP p c xs ys) ys = xs := by
  refine (addP_ok hp _ _ _).ext hp hx ((addP_co _ _ _).trans fun k => ?_)
  obtain ⟨u, q⟩ := addP_co (p := p) c xs ys k
  refine ⟨u, ?_⟩
  have : d = -c := by omega
  subst this
  dsimp only at q ⊢
  grind
theorem mulL_nil : ∀ (xs : List Int) (k : Nat), co (mulL xs []) k = 0 := fun xs k => by
  rw [co_mulL, mul_co]
  simp [mulF]
theorem mulP_nil (xs : List Int) : mulP p xs [] = [] := by
  unfold mulP nf
  refine (trim_nil_iff _).mpr fun k => ?_
  rw [co_red, mulL_nil]
  simp
/-- a sum as the program makes it: the rows filled with zeros -/
def padL (n : Nat) (xs : List Int) : List Int := xs ++ List.replicate (n - xs.length) 0
theorem co_app0 (xs : List Int) (n k : Nat) : co (xs ++ List.replicate n 0) k = co xs k := by
  unfold co
  rw [List.getD_eq_getElem?_getD, List.getD_eq_getElem?_getD]
  rcases Nat.lt_or_ge k xs.length with h | h
  · rw [List.getElem?_append_left h]
  · rw [List.getElem?_append_right h, List.getElem?_eq_none h, List.getElem?_replicate]
    by_cases c : k - xs.length < n <;> simp [c]
theorem co_pad (n : Nat) (xs : List Int) (k : Nat) : co (padL n xs) k = co xs k := co_app0 _ _ _
theorem pad_len {n : Nat} {xs : List Int} (h : xs.length ≤ n) : (padL n xs).length = n := by
  simp [padL]; omega
theorem co_zip (g : Int → Int → Int) : ∀ (xs ys : List Int), xs.length = ys.length → g 0 0 = 0 → ∀ k, co ((xs.zip ys).map fun q => g q.1 q.2) k = g (co xs k) (co ys k)
  | [], [], _, h0, k => by simp [co, h0]
  | [], _ :: _, h, _, _ => by cases h
  | _ :: _, [], h, _, _ => by cases h
  | x :: xs, y :: ys, h, h0, k => by
    cases k with
    | zero => simp [co]
    | succ k => have := co_zip g xs ys (by simpa using h) h0 k; simpa [co] using this
theorem addP_of (hp : 0 < p) {c : Int} {xs ys : List Int} {n : Nat} (hx : xs.length ≤ n) (hy : ys.length ≤ n) {zs : List Int}
    (e : zs = ((padL n xs).zip (padL n ys)).map fun q => (q.1 + c * q.2) % p) : nf p zs = addP p c xs ys := by
  refine nf_congr hp fun k => ?_
  rw [e, co_zip (fun a b => (a + c * b) % p) _ _ (by rw [pad_len hx, pad_len hy]) (by simp), co_pad, co_pad, co_addS]
  exact dvd_mod p _
theorem red_self {xs : List Int} (h : ∀ x ∈ xs, 0 ≤ x ∧ x < p) : red p xs = xs := by
  unfold red
  conv => rhs; rw [← List.map_id xs]
  refine List.map_congr_left fun x hx => ?_
  have := h x hx
  exact Int.emod_eq_of_lt this.1 this.2
theorem trim_nf {xs : List Int} (h : ∀ x ∈ xs, 0 ≤ x ∧ x < p) : trim xs = nf p xs := by
  unfold nf
  rw [red_self h]
/-! a polynomial behind i zeros -/
def shN (i : Nat) (f : Fn) : Fn := fun k => if k < i then 0 else f (k - i)
theorem sh_shN (i : Nat) (f : Fn) (k : Nat) : sh (shN i f) k = shN (i + 1) f k := by
  cases k with
  | zero => simp [sh, shN]
  | succ k =>
    simp only [sh, shN]
    by_cases h : k < i
    · simp [h]
    · simp [h]
theorem mulF_take {i : Nat} {x : Int} (f : Fn) : ∀ (xs : List Int) (i : Nat), xs[i]? = some x → ∀ k, mulF (xs.take (i + 1)) f k = mulF (xs.take i) f k + x * shN i f k
  | [], i, h, k => by cases h
  | y :: ys, 0, h, k => by
    have : y = x := by simpa using h
    subst this
    have z : ∀ k, sh (mulF [] f) k = 0 := fun k => by cases k <;> rfl
    simp [mulF, shN]
    cases k <;> simp [sh]
  | y :: ys, i + 1, h, k => by
    have ih := mulF_take f ys i (i := i) (by simpa using h)
    show y * f k + sh (mulF (ys.take (i + 1)) f) k = y * f k + sh (mulF (ys.take i) f) k + x * shN (i + 1) f k
    rw [← sh_shN]
    cases k with
    | zero => simp [sh]
    | succ k => simp only [sh]; rw [ih k]; grind
theorem co_take_s {y : Int} : ∀ (ys : List Int) (j : Nat), ys[j]? = some y → ∀ k, co (ys.take (j + 1)) k = co (ys.take j) k + if k = j then y else 0
  | [], j, h, k => by cases h
  | z :: zs, 0, h, k => by
    have : z = y := by simpa using h
    subst this
    cases k with
    | zero => simp [co]
    | succ k => simp [co]
  | z :: zs, j + 1, h, k => by
    cases k with
    | zero => simp [co]
    | succ k =>
      have := co_take_s zs j (by simpa using h) k
      simpa [co] using this
theorem co_set {xs : List Int} {j : Nat} (hj : j < xs.length) (v : Int) (k : Nat) : co (xs.set j v) k = if k = j then v else co xs k := by
  unfold co
  rw [List.getD_eq_getElem?_getD, List.getD_eq_getElem?_getD, List.getElem?_set]
  by_cases h : j = k
  · subst h; simp [hj]
  · have h2 : ¬ k = j := fun e => h e.symm
    simp [h, h2]
theorem co_get {xs : List Int} {j : Nat} (hj : j < xs.length) : xs[j]? = some (co xs j) := by
  unfold co
  rw [List.getD_eq_getElem?_getD, List.getElem?_eq_getElem hj]
  rfl
theorem mulF_set (f : Fn) (c : Int) : ∀ (xs : List Int) (i : Nat), i < xs.length → co xs i = 0 → ∀ k, mulF (xs.set i c) f k = mulF xs f k + c * shN i f k
  | [], i, h, _, k => by cases h
  | y :: ys, 0, h, h0, k => by
    have : y = 0 := by simpa [co] using h0
    subst this
    show c * f k + sh (mulF ys f) k = 0 * f k + sh (mulF ys f) k + c * shN 0 f k
    simp [shN]
    grind
  | y :: ys, i + 1, h, h0, k => by
    have ih := mulF_set f c ys i (by simpa using h) (by simpa [co] using h0)
    show y * f k + sh (mulF (ys.set i c) f) k = y * f k + sh (mulF ys f) k + c * shN (i + 1) f k
    rw [← sh_shN]
    cases k with
    | zero => simp [sh]
    | succ k => simp only [sh]; rw [ih k]; grind
theorem co_shN (i : Nat) (ys : List Int) (k : Nat) : co (List.replicate i 0 ++ ys) k = shN i (co ys) k := by
  unfold co shN
  dsimp only
  rw [List.getD_eq_getElem?_getD]
  by_cases h : k < i
  · rw [List.getElem?_append_left (by simpa using h)]
    simp [h]
  · rw [List.getElem?_append_right (by simp; omega)]
    simp [h]
/-- rows of a product: found[i + j] grows by x * y -/
theorem row_step {i j : Nat} {x y v : Int} {f f0 : List Int} {ys : List Int} (hy : ys[j]? = some y) (hl : i + j < f.length)
    (hf : Eqm p (co f) (fun k => co f0 k + x * shN i (co (ys.take j)) k)) (hv : p ∣ v - (co f (i + j) + x * y)) :
    Eqm p (co (f.set (i + j) v)) (fun k => co f0 k + x * shN i (co (ys.take (j + 1))) k) := fun k => by
  rw [co_set hl]
  obtain ⟨u, e⟩ := hf k
  dsimp only at e ⊢
  have e2 : shN i (co (ys.take (j + 1))) k = shN i (co (ys.take j)) k + if k = i + j then y else 0 := by
    unfold shN
    by_cases h : k < i
    · have : ¬ k = i + j := by omega
      simp [h, this]
    · simp only [h, if_false]
      rw [co_take_s ys j hy]
      by_cases h2 : k = i + j
      · have : k - i = j := by omega
        simp [h2, this]
      · have : ¬ k - i = j := by omega
        simp [h2, this]
  rw [e2]
  by_cases h : k = i + j
  · subst h
    obtain ⟨w, e3⟩ := hv
    simp only [if_true]
    exact ⟨w + u, by grind⟩
  · simp only [h, if_false]
    exact ⟨u, by grind⟩
theorem row_end {i : Nat} {x : Int} {f f0 xs ys : List Int} (hx : xs[i]? = some x) (h0 : Eqm p (co f0) (mulF (xs.take i) (co ys)))
    (hf : Eqm p (co f) (fun k => co f0 k + x * shN i (co (ys.take ys.length)) k)) : Eqm p (co f) (mulF (xs.take (i + 1)) (co ys)) := fun k => by
  rw [mulF_take (i := i) _ xs i hx]
  obtain ⟨u, e⟩ := hf k
  obtain ⟨w, e2⟩ := h0 k
  rw [List.take_length] at e
  exact ⟨u + w, by dsimp only at e; grind⟩
theorem mulP_of (hp : 0 < p) {xs ys f : List Int} (h : Eqm p (co f) (mulF (xs.take xs.length) (co ys))) : nf p f = mulP p xs ys := by
  refine nf_congr hp (h.trans (Eqm.of _ _ fun k => ?_))
  rw [co_mulL, List.take_length]
/-! division -/
/-- how the quotient and the rest stand before the last n turns -/
structure DI (p : Int) (a b : List Int) (n : Nat) (q r : List Int) : Prop where
  eq : Eqm p (co a) (fun k => mulF q (co b) k + 1 * co r k)
  z : ∀ k, k < n → co q k = 0
  hi : ∀ k, n + b.length ≤ k + 1 → p ∣ co r k
theorem mulF_zeros (f : Fn) : ∀ (n k : Nat), mulF (List.replicate n 0) f k = 0
  | 0, k => rfl
  | n + 1, k => by
    show 0 * f k + sh (mulF (List.replicate n 0) f) k = 0
    cases k with
    | zero => simp [sh]
    | succ k => simp only [sh]; rw [mulF_zeros f n k]; grind
theorem co_zeros (n k : Nat) : co (List.replicate n 0) k = 0 := by
  have := co_app0 [] n k
  simpa [co] using this
theorem DI.start {a b : List Int} {n : Nat} (m : Nat) (h : a.length < n + b.length) : DI p a b n (List.replicate m 0) a := by
  refine ⟨Eqm.of _ _ fun k => ?_, fun k _ => co_zeros m k, fun k hk => ?_⟩
  · rw [mulF_zeros]; grind
  · rw [co_ge (by omega)]; exact Int.dvd_zero p
/-- a turn -/
theorem DI.step {a b q r r' : List Int} {n : Nat} (d : DI p a b (n + 1) q r) (lb : 0 < b.length) (hn : n < q.length) {c u : Int}
    (hc : p ∣ c - co r (n + b.length - 1) * u) (hu : p ∣ co b (b.length - 1) * u - 1)
    (hr : Eqm p (co r') (fun k => co r k - c * shN n (co b) k)) : DI p a b n (q.set n c) r' := by
  refine ⟨fun k => ?_, fun k hk => ?_, fun k hk => ?_⟩
  · dsimp only
    rw [mulF_set _ _ q n hn (d.z n (by omega))]
    obtain ⟨v, e⟩ := d.eq k
    obtain ⟨w, e2⟩ := hr k
    dsimp only at e e2
    exact ⟨v - w, by grind⟩
  · rw [co_set hn]
    have : ¬ k = n := by omega
    simp only [this, if_false]
    exact d.z k (by omega)
  · obtain ⟨w, e2⟩ := hr k
    dsimp only at e2
    by_cases h : n + 1 + b.length ≤ k + 1
    · have h1 := d.hi k h
      have h2 : shN n (co b) k = 0 := by
        unfold shN
        have : ¬ k < n := by omega
        simp only [this, if_false]
        exact co_ge (by omega)
      rw [h2] at e2
      obtain ⟨v, e⟩ := h1
      exact ⟨v + w, by grind⟩
    · have hk' : k = n + b.length - 1 := by omega
      subst hk'
      have h2 : shN n (co b) (n + b.length - 1) = co b (b.length - 1) := by
        unfold shN
        have : ¬ n + b.length - 1 < n := by omega
        simp only [this, if_false]
        congr 1
        omega
      rw [h2] at e2
      obtain ⟨v, e⟩ := hc
      obtain ⟨t, e3⟩ := hu
      refine ⟨w - v * co b (b.length - 1) - co r (n + b.length - 1) * t, ?_⟩
      grind
theorem DI.fin (hp : 0 < p) {a b q r : List Int} (d : DI p a b 0 q r) (lb : 0 < b.length) : Divs p a b (nf p q) (nf p r) := by
  refine ⟨nf_ok hp q, nf_ok hp r, ?_, fun k => ?_⟩
  · have : (nf p r).length ≤ b.length - 1 := trim_lt _ fun k hk => by
      rw [co_red]
      exact Int.emod_eq_zero_of_dvd (d.hi k (by omega))
    omega
  · obtain ⟨u, e⟩ := d.eq k
    obtain ⟨v, e2⟩ := nf_eqm (p := p) r k
    have e3 : Eqm p (mulF (nf p q) (co b)) (mulF q (co b)) := fun k => by
      rw [mul_co (nf p q) b, mul_co q b]
      exact Eqm.mul (nf_eqm q) b k
    obtain ⟨w, e4⟩ := e3 k
    exact ⟨u - v - w, by dsimp only at e ⊢; grind⟩
/-- the law's turn: the rest is a normal form -/
theorem DI.law {a b q r : List Int} {n : Nat} (hp : 0 < p) (d : DI p a b (n + 1) q r) (lb : 0 < b.length) (hl : r.length = n + b.length) (hn : n < q.length) {c u : Int}
    (hc : p ∣ c - co r (n + b.length - 1) * u) (hu : p ∣ co b (b.length - 1) * u - 1) :
    DI p a b n (q.set n c) (addP p (-c) r (List.replicate n 0 ++ b)) ∧ (addP p (-c) r (List.replicate n 0 ++ b)).length < n + b.length := by
  have d' : DI p a b n (q.set n c) (addP p (-c) r (List.replicate n 0 ++ b)) := d.step lb hn hc hu fun k => by
    obtain ⟨v, e⟩ := addP_co (p := p) (-c) r (List.replicate n 0 ++ b) k
    dsimp only at e ⊢
    rw [co_shN] at e
    exact ⟨v, by grind⟩
  refine ⟨d', ?_⟩
  have : (addP p (-c) r (List.replicate n 0 ++ b)).length ≤ n + b.length - 1 := by
    have hN := addP_ok hp (-c) r (List.replicate n 0 ++ b)
    have := trim_lt (n := n + b.length - 1) (addP p (-c) r (List.replicate n 0 ++ b)) fun k hk => by
      have h1 := d'.hi k (by omega)
      exact eq_of_dvd (co_range hp hN.rs k) ⟨Int.le_refl _, hp⟩ (by rw [Int.sub_zero]; exact h1)
    rwa [hN.tr] at this
  omega
theorem DI.less {a b q r : List Int} {n m : Nat} (d : DI p a b n q r) (hm : m ≤ n) (h : r.length < m + b.length) : DI p a b m q r :=
  ⟨d.eq, fun k hk => d.z k (by omega), fun k hk => by rw [co_ge (by omega)]; exact Int.dvd_zero p⟩
/-- the one quotient and rest -/
noncomputable def qr (p : Int) (a b : List Int) : List Int × List Int :=
  open Classical in if h : ∃ q : List Int × List Int, Divs p a b q.1 q.2 then choose h else ([], [])
theorem qr_of (h : Pr p) {a b q r : List Int} (hb : Nf p b) (nb : b ≠ []) (d : Divs p a b q r) : qr p a b = (q, r) := by
  have e : ∃ q : List Int × List Int, Divs p a b q.1 q.2 := ⟨(q, r), d⟩
  unfold qr
  rw [dif_pos e]
  have := Divs.uniq h hb nb (Classical.choose_spec e) d
  exact Prod.ext this.1 this.2
/-! Euclid -/
noncomputable def gcdP (p : Int) : Nat → List Int → List Int → List Int
  | 0, a, _ => a
  | n + 1, a, b => if b = [] then a else gcdP p n b (qr p a b).2
def inv (p x : Int) : Int := x ^ (p - 2).toNat % p
def monP (p : Int) (a : List Int) : List Int := a.map fun x => inv p (co a (a.length - 1)) * x % p
end
theorem inv_ok {p : Int} (hp : p ∈ primes) {x : Int} (h1 : 0 < x) (h2 : x < p) : p ∣ x * inv p x - 1 ∧ 0 < inv p x ∧ inv p x < p := by
  have e : p = 2 ∨ p = 3 ∨ p = 5 ∨ p = 7 := by simpa [primes] using hp
  rcases e with rfl | rfl | rfl | rfl
  · have : x = 1 := by omega
    subst this; decide
  · have : x = 1 ∨ x = 2 := by omega
    rcases this with rfl | rfl <;> decide
  · have : x = 1 ∨ x = 2 ∨ x = 3 ∨ x = 4 := by omega
    rcases this with rfl | rfl | rfl | rfl <;> decide
  · have : x = 1 ∨ x = 2 ∨ x = 3 ∨ x = 4 ∨ x = 5 ∨ x = 6 := by omega
    rcases this with rfl | rfl | rfl | rfl | rfl | rfl <;> decide
/-! what Euclid's steps give -/
section
variable {p : Int}
theorem gcdP_dv {t : List Int} (hq : ∀ a b : List Int, Nf p a → Nf p b → b ≠ [] → Divs p a b (qr p a b).1 (qr p a b).2) :
    ∀ (n : Nat) (a b : List Int), Nf p a → Nf p b → Dv p t a → Dv p t b → Dv p t (gcdP p n a b) ∧ Nf p (gcdP p n a b)
  | 0, a, b, ha, hb, va, vb => ⟨va, ha⟩
  | n + 1, a, b, ha, hb, va, vb => by
    unfold gcdP
    by_cases h : b = []
    · simp only [h, if_true]; exact ⟨va, ha⟩
    · simp only [h, if_false]
      have d := hq a b ha hb h
      exact gcdP_dv hq n b _ hb d.rn vb (Dv.step d va vb)
theorem gcdP_more (hq : ∀ a b : List Int, Nf p a → Nf p b → b ≠ [] → Divs p a b (qr p a b).1 (qr p a b).2) :
    ∀ (n m : Nat) (a b : List Int), Nf p a → Nf p b → b.length ≤ n → b.length ≤ m → gcdP p n a b = gcdP p m a b
  | 0, 0, a, b, _, _, _, _ => rfl
  | 0, m + 1, a, b, _, _, h, _ => by
    have : b = [] := List.length_eq_zero_iff.mp (by omega)
    simp [gcdP, this]
  | n + 1, 0, a, b, _, _, _, h => by
    have : b = [] := List.length_eq_zero_iff.mp (by omega)
    simp [gcdP, this]
  | n + 1, m + 1, a, b, ha, hb, h1, h2 => by
    unfold gcdP
    by_cases h : b = []
    · simp only [h, if_true]
    · simp only [h, if_false]
      have d := hq a b ha hb h
      exact gcdP_more hq n m b _ hb d.rn (by have := d.lt; omega) (by have := d.lt; omega)
noncomputable def gcd (p : Int) (a b : List Int) : List Int := gcdP p b.length a b
theorem gcd_nil (a : List Int) : gcd p a [] = a := rfl
theorem gcd_step (hq : ∀ a b : List Int, Nf p a → Nf p b → b ≠ [] → Divs p a b (qr p a b).1 (qr p a b).2) {a b : List Int} (ha : Nf p a) (hb : Nf p b) (h : b ≠ []) :
    gcd p a b = gcd p b (qr p a b).2 := by
  have d := hq a b ha hb h
  have := d.lt
  cases e : b.length with
  | zero => omega
  | succ n =>
    unfold gcd
    rw [e]
    show (if b = [] then a else gcdP p n b (qr p a b).2) = _
    simp only [h, if_false]
    exact gcdP_more hq _ _ _ _ hb d.rn (by omega) (Nat.le_refl _)
theorem Dv.mul (t xs : List Int) : Dv p t (mulP p xs t) := ⟨xs, mulP_co xs t⟩
theorem mon_nf (hp : p ∈ primes) {a : List Int} (ha : Nf p a) (na : a ≠ []) : Nf p (monP p a) := by
  have P := pr_of hp
  have p0 : 0 < p := by have := P.gt; omega
  have lead := lead_nd P ha na
  have rg := co_range p0 ha.rs (a.length - 1)
  have i := inv_ok hp (x := co a (a.length - 1)) (by
    rcases Int.lt_or_lt_of_ne (show co a (a.length - 1) ≠ 0 from trim_last a ha.tr na) with h | h <;> omega) rg.2
  have hr : ∀ x ∈ monP p a, 0 ≤ x ∧ x < p := fun x hx => by
    obtain ⟨y, _, rfl⟩ := List.mem_map.mp hx
    exact ⟨Int.emod_nonneg _ (by omega), Int.emod_lt_of_pos _ p0⟩
  refine ⟨hr, ?_⟩
  have la := List.length_pos_iff.mpr na
  have lm : (monP p a).length = a.length := by simp [monP]
  have e : co (monP p a) (a.length - 1) = inv p (co a (a.length - 1)) * co a (a.length - 1) % p := by
    unfold co monP
    rw [List.getD_eq_getElem?_getD, List.getElem?_map, List.getElem?_eq_getElem (show a.length - 1 < a.length by omega)]
    simp [co, List.getElem?_eq_getElem (show a.length - 1 < a.length by omega)]
  have n0 : co (monP p a) (a.length - 1) ≠ 0 := by
    rw [e]
    intro h
    have d := Int.dvd_of_emod_eq_zero h
    rcases P.pr _ _ d with h | h
    · exact Int.ne_of_lt i.2.1 (eq_of_dvd ⟨Int.le_refl _, p0⟩ ⟨by omega, i.2.2⟩ (by rw [Int.zero_sub]; exact Int.dvd_neg.mpr h))
    · exact lead h
  have len : (trim (monP p a)).length = a.length := by
    have h1 := trim_length (monP p a)
    rcases Nat.lt_or_ge (trim (monP p a)).length a.length with h | h
    · exfalso
      apply n0
      rw [← co_trim]
      exact co_ge (by omega)
    · omega
  refine List.ext_getElem? fun k => ?_
  rcases Nat.lt_or_ge k a.length with h | h
  · rw [co_get (by omega), co_get (by omega), co_trim]
  · rw [List.getElem?_eq_none (by omega), List.getElem?_eq_none (by omega)]
theorem mon_dv {t a : List Int} (h : Dv p t a) : Dv p t (monP p a) := h.scale _
end
theorem di_ex {p : Int} (hp : 0 < p) {a b : List Int} (lb : 0 < b.length) {u : Int} (hu : p ∣ co b (b.length - 1) * u - 1) :
    ∀ (n : Nat) (q r : List Int), n ≤ q.length → DI p a b n q r → ∃ q' r, DI p a b 0 q' r ∧ q'.length = q.length
  | 0, q, r, _, d => ⟨q, r, d, rfl⟩
  | n + 1, q, r, hn, d => by
    have d' := d.step lb (by omega) (c := co r (n + b.length - 1) * u) (u := u) (r' := addP p (-(co r (n + b.length - 1) * u)) r (List.replicate n 0 ++ b)) (by rw [Int.sub_self]; exact Int.dvd_zero p) hu fun k => by
      obtain ⟨v, e⟩ := addP_co (p := p) (-(co r (n + b.length - 1) * u)) r (List.replicate n 0 ++ b) k
      dsimp only at e ⊢
      rw [co_shN] at e
      exact ⟨v, by grind⟩
    obtain ⟨q', r', d2, e⟩ := di_ex hp lb hu n _ _ (by rw [List.length_set]; omega) d'
    exact ⟨q', r', d2, by rw [e, List.length_set]⟩
theorem lead_rg {p : Int} (hp : p ∈ primes) {b : List Int} (hb : Nf p b) (nb : b ≠ []) : 0 < co b (b.length - 1) ∧ co b (b.length - 1) < p := by
  have P := pr_of hp
  have p0 : 0 < p := by have := P.gt; omega
  have rg := co_range p0 hb.rs (b.length - 1)
  have n0 := trim_last b hb.tr nb
  omega
theorem divs_len {p : Int} (hp : p ∈ primes) (a b : List Int) (hb : Nf p b) (nb : b ≠ []) : Divs p a b (qr p a b).1 (qr p a b).2 ∧ (qr p a b).1.length ≤ a.length + 1 := by
  have P := pr_of hp
  have p0 : 0 < p := by have := P.gt; omega
  have lb := List.length_pos_iff.mpr nb
  have l := lead_rg hp hb nb
  have i := inv_ok hp l.1 l.2
  obtain ⟨q, r, d, e⟩ := di_ex p0 lb i.1 (a.length + 1) _ _ (by simp) (DI.start (p := p) (a := a) (b := b) (n := a.length + 1) (a.length + 1) (by omega))
  have d2 := d.fin p0 lb
  rw [qr_of P hb nb d2]
  refine ⟨d2, ?_⟩
  have := nf_len (p := p) q
  rw [e, List.length_replicate] at this
  exact this
theorem divs_qr {p : Int} (hp : p ∈ primes) (a b : List Int) (hb : Nf p b) (nb : b ≠ []) : Divs p a b (qr p a b).1 (qr p a b).2 := (divs_len hp a b hb nb).1
end Pm
-- T4
/-! the law's defs as terms -/
namespace K4
open PySem Ev
def top (i : Nat) : Stmt := PySem.Challenge.pw_tablerings_k04_whole_polynomials_reckone.main.body.getD i (.Pass ⟨0, 0, 0, 0⟩)
def b0 : I := (.sCons (.sRet (.and (.isi .isIntB (.var 0)) (.one (.not (.isi .isBoolB (.var 0)))))) .sNil)
def b1 : I := (.sCons (.sRet (.and (.cal 0 (.acons (.var 0) .anil)) (.one (.chn .le .le (.var 1) (.var 0) (.var 2))))) .sNil)
def b2 : I := (.sCons (.sRet (.and (.cal 0 (.acons (.var 0) .anil)) (.one (.cmp .inn (.var 0) (.glb 0))))) .sNil)
def b3 : I := (.sCons (.sRet (.and (.isi .isTupB (.var 2)) (.and (.cmp .eq (.blt .len (.acons (.var 2) .anil)) (.var 1)) (.one (.blt .all (.acons (.lc (.gv 3) (.iS (.var 2)) (.cst (.bl true)) (.cal 1 (.acons (.var 3) (.acons (.cst (.int 0)) (.acons (.bin .sub (.var 0) (.cst (.int 1))) .anil)))) [3]) .anil)))))) .sNil)
def b4 : I := (.sCons (.sRet (.ix (.gdx 0 (.var 0)) (.var 1))) .sNil)
def b5 : I := (.sCons (.sIf (.not (.tv (.cal 2 (.acons (.var 0) .anil)))) .sNever .sNil) .sNil)
def b6 : I := (.sCons (.sRet (.bin .mul (.tup (.acons (.cst (.int 0)) .anil)) (.var 0))) .sNil)
def b7 : I := (.sCons (.sRet (.blt .tuple (.acons (.lc (.gv 3) (.iS (.var 2)) (.cst (.bl true)) (.bin .mod (.bin .mul (.var 1) (.var 3)) (.var 0)) [3]) .anil))) .sNil)
def b8 : I := (.sCons (.sRet (.blt .tuple (.acons (.lc (.gt (.gcons (.gv 4) (.gcons (.gv 5) .gnil))) (.iZ (.var 1) (.var 2)) (.cst (.bl true)) (.bin .mod (.bin .add (.var 4) (.bin .mul (.var 3) (.var 5))) (.var 0)) [4, 5]) .anil))) .sNil)
def b9 : I := (.sCons (.sAsg (.gv 2) (.lc (.gv 3) (.iS (.var 1)) (.cst (.bl true)) (.bin .mod (.var 3) (.var 0)) [3])) (.sCons (.sWh (.and (.cmp .ne (.var 2) (.lst .anil)) (.one (.cmp .eq (.ix (.var 2) (.neg (.cst (.int 1)))) (.cst (.int 0))))) (.sCons (.sExp (.pop (.var 2))) .sNil)) (.sCons (.sRet (.blt .tuple (.acons (.var 2) .anil))) .sNil)))
def b10 : I := (.sCons (.sAsg (.gv 4) (.blt .max2 (.acons (.blt .len (.acons (.var 1) .anil)) (.acons (.blt .len (.acons (.var 2) .anil)) .anil)))) (.sCons (.sPar2 5 6 (.lst (.astar (.var 1) (.astar (.cal 6 (.acons (.bin .sub (.var 4) (.blt .len (.acons (.var 1) .anil))) .anil)) .anil))) (.lst (.astar (.var 2) (.astar (.cal 6 (.acons (.bin .sub (.var 4) (.blt .len (.acons (.var 2) .anil))) .anil)) .anil)))) (.sCons (.sRet (.cal 9 (.acons (.var 0) (.acons (.cal 8 (.acons (.var 0) (.acons (.var 5) (.acons (.var 6) (.acons (.var 3) .anil))))) .anil)))) .sNil)))
def b11 : I := (.sCons (.sAsg (.gv 3) (.bin .mul (.lst (.acons (.cst (.int 0)) .anil)) (.bin .add (.blt .len (.acons (.var 1) .anil)) (.blt .len (.acons (.var 2) .anil))))) (.sCons (.sFor (.gt (.gcons (.gv 4) (.gcons (.gv 5) .gnil))) (.iE (.var 1)) (.sCons (.sFor (.gt (.gcons (.gv 6) (.gcons (.gv 7) .gnil))) (.iE (.var 2)) (.sCons (.sAugX (.var 3) (.bin .add (.var 4) (.var 6)) .add (.bin .mul (.var 5) (.var 7))) .sNil)) .sNil)) (.sCons (.sRet (.cal 9 (.acons (.var 0) (.acons (.var 3) .anil)))) .sNil)))
def b12 : I := (.sCons (.sPar3 5 6 7 (.blt .list (.acons (.var 1) .anil)) (.bin .mul (.lst (.acons (.cst (.int 0)) .anil)) (.blt .len (.acons (.var 1) .anil))) (.blt .len (.acons (.var 2) .anil))) (.sCons (.sAsg (.gv 3) (.cal 4 (.acons (.var 0) (.acons (.ix (.var 2) (.neg (.cst (.int 1)))) .anil)))) (.sCons (.sFor (.gv 4) (.iR (.acons (.bin .sub (.blt .len (.acons (.var 1) .anil)) (.var 7)) (.acons (.neg (.cst (.int 1))) (.acons (.neg (.cst (.int 1))) .anil)))) (.sCons (.sAsg (.gx (.var 6) (.var 4)) (.bin .mod (.bin .mul (.ix (.var 5) (.bin .sub (.bin .add (.var 4) (.var 7)) (.cst (.int 1)))) (.var 3)) (.var 0))) (.sCons (.sFor (.gt (.gcons (.gv 8) (.gcons (.gv 9) .gnil))) (.iE (.var 2)) (.sCons (.sAugX (.var 5) (.bin .add (.var 4) (.var 8)) .sub (.bin .mul (.ix (.var 6) (.var 4)) (.var 9))) .sNil)) .sNil))) (.sCons (.sRet (.tup (.acons (.cal 9 (.acons (.var 0) (.acons (.var 6) .anil))) (.acons (.cal 9 (.acons (.var 0) (.acons (.var 5) .anil))) .anil)))) .sNil))))
def b13 : I := (.sCons (.sRet (.ife (.cmp .ne (.var 1) (.tup .anil)) (.cal 7 (.acons (.var 0) (.acons (.cal 4 (.acons (.var 0) (.acons (.ix (.var 1) (.neg (.cst (.int 1)))) .anil))) (.acons (.var 1) .anil)))) (.tup .anil))) .sNil)
def b14 : I := (.sCons (.sWh (.cmp .ne (.var 2) (.tup .anil)) (.sCons (.sPar2 1 2 (.var 2) (.ix (.cal 12 (.acons (.var 0) (.acons (.var 1) (.acons (.var 2) .anil)))) (.cst (.int 1)))) .sNil)) (.sCons (.sRet (.cal 13 (.acons (.var 0) (.acons (.var 1) .anil)))) .sNil))
def b15 : I := (.sCons (.sIf (.or (.not (.tv (.isi .isTupB (.var 1)))) (.one (.cmp .gt (.blt .len (.acons (.var 1) .anil)) (.bin .add (.glb 1) (.cst (.int 1)))))) (.sCons (.sRet (.cst (.bl false))) .sNil) .sNil) (.sCons (.sRet (.and (.cal 3 (.acons (.var 0) (.acons (.blt .len (.acons (.var 1) .anil)) (.acons (.var 1) .anil)))) (.one (.or (.cmp .eq (.var 1) (.tup .anil)) (.one (.cmp .ne (.ix (.var 1) (.neg (.cst (.int 1)))) (.cst (.int 0)))))))) .sNil))
def b16 : I := (.sCons (.sIf (.not (.tv (.cal 15 (.acons (.var 0) (.acons (.var 1) .anil))))) .sNever .sNil) .sNil)
def b17 : I := (.sCons (.sExp (.cal 5 (.acons (.var 0) .anil))) (.sCons (.sExp (.cal 16 (.acons (.var 0) (.acons (.var 1) .anil)))) .sNil))
def b18 : I := (.sCons (.sExp (.cal 17 (.acons (.var 0) (.acons (.var 1) .anil)))) (.sCons (.sExp (.cal 16 (.acons (.var 0) (.acons (.var 2) .anil)))) .sNil))
def b19 : I := (.sCons (.sExp (.cal 5 (.acons (.var 0) .anil))) (.sCons (.sRet (.cal 15 (.acons (.var 0) (.acons (.var 1) .anil)))) .sNil))
def b20 : I := (.sCons (.sExp (.cal 18 (.acons (.var 0) (.acons (.var 1) (.acons (.var 2) .anil))))) (.sCons (.sRet (.cal 10 (.acons (.var 0) (.acons (.var 1) (.acons (.var 2) (.acons (.cst (.int 1)) .anil)))))) .sNil))
def b21 : I := (.sCons (.sExp (.cal 18 (.acons (.var 0) (.acons (.var 1) (.acons (.var 2) .anil))))) (.sCons (.sRet (.cal 10 (.acons (.var 0) (.acons (.var 1) (.acons (.var 2) (.acons (.neg (.cst (.int 1))) .anil)))))) .sNil))
def b22 : I := (.sCons (.sExp (.cal 18 (.acons (.var 0) (.acons (.var 1) (.acons (.var 2) .anil))))) (.sCons (.sRet (.cal 11 (.acons (.var 0) (.acons (.var 1) (.acons (.var 2) .anil))))) .sNil))
def b23 : I := (.sCons (.sExp (.cal 18 (.acons (.var 0) (.acons (.var 1) (.acons (.var 2) .anil))))) (.sCons (.sIf (.cmp .eq (.var 2) (.tup .anil)) .sNever .sNil) (.sCons (.sRet (.cal 12 (.acons (.var 0) (.acons (.var 1) (.acons (.var 2) .anil))))) .sNil)))
def b24 : I := (.sCons (.sExp (.cal 18 (.acons (.var 0) (.acons (.var 1) (.acons (.var 2) .anil))))) (.sCons (.sRet (.cal 14 (.acons (.var 0) (.acons (.var 1) (.acons (.var 2) .anil))))) .sNil))
def b25 : I := (.sCons (.sAsg (.gv 2) (.ife (.cmp .lt (.var 1) (.blt .len (.acons (.var 0) .anil))) (.blt .int (.acons (.ix (.var 0) (.var 1)) .anil)) (.bin .add (.bin .mul (.cst (.int 157)) (.var 1)) (.cst (.int 83))))) (.sCons (.sAsg (.gv 3) (.bin .mod (.blt .int (.acons (.blt .abs (.acons (.var 2) .anil)) .anil)) (.bin .pow (.bin .pow (.cst (.int 10)) (.cst (.int 53))) (.cst (.int 6))))) (.sCons (.sRet (.lst (.acons (.blt .max2 (.acons (.cst (.int 0)) (.acons (.bin .sub (.var 3) (.bin .pow (.cst (.int 10)) (.cst (.int 16)))) .anil))) (.acons (.bin .add (.bin .add (.bin .add (.bin .mul (.bin .mod (.blt .int (.acons (.var 3) .anil)) (.cst (.int 2147483489))) (.cst (.int 97))) (.bin .mul (.cst (.int 619)) (.var 1))) (.bin .mul (.cst (.int 37)) (.blt .int (.acons (.cmp .lt (.var 2) (.cst (.int 0))) .anil)))) (.cst (.int 19))) (.acons (.cst (.int 0)) .anil))))) .sNil)))
def b26 : I := (.sCons (.sIf (.cmp .gt (.ix (.var 0) (.cst (.int 0))) (.cst (.int 0))) (.sCons (.sAsg (.gv 4) (.bin .mod (.blt .int (.acons (.ix (.var 0) (.cst (.int 0))) .anil)) (.var 1))) (.sCons (.sAsg (.gx (.var 0) (.cst (.int 0))) (.bin .fdiv (.ix (.var 0) (.cst (.int 0))) (.var 1))) (.sCons (.sRet (.var 4)) .sNil))) .sNil) (.sCons (.sAsg (.gx (.var 0) (.cst (.int 2))) (.bin .add (.ix (.var 0) (.cst (.int 2))) (.cst (.int 1)))) (.sCons (.sAsg (.gv 2) (.bin .mod (.blt .int (.acons (.bin .add (.ix (.var 0) (.cst (.int 1))) (.bin .mul (.cst (.int 7368787)) (.ix (.var 0) (.cst (.int 2))))) .anil)) (.cst (.int 2305843009213693951)))) (.sCons (.sAsg (.gv 3) (.bin .add (.bin .mul (.bin .mod (.blt .int (.acons (.bin .add (.bin .mul (.var 2) (.var 2)) (.bin .mul (.cst (.int 163)) (.ix (.var 0) (.cst (.int 2))))) .anil)) (.cst (.int 2305843009213693951))) (.cst (.int 4256249))) (.var 2))) (.sCons (.sRet (.bin .mod (.blt .int (.acons (.bin .fdiv (.var 3) (.cst (.int 65536))) .anil)) (.var 1))) .sNil)))))
def b27 : I := (.sCons (.sRet (.ix (.var 1) (.cal 26 (.acons (.var 0) (.acons (.blt .len (.acons (.var 1) .anil)) .anil))))) .sNil)
def b28 : I := (.sCons (.sAsg (.gv 1) (.blt .len (.acons (.var 0) .anil))) (.sCons (.sWh (.and (.cmp .gt (.var 1) (.cst (.int 0))) (.one (.cmp .eq (.ix (.var 0) (.bin .sub (.var 1) (.cst (.int 1)))) (.cst (.int 0))))) (.sCons (.sAsg (.gv 1) (.bin .sub (.var 1) (.cst (.int 1)))) .sNil)) (.sCons (.sRet (.blt .tuple (.acons (.sl (.var 0) .pno (.po (.var 1))) .anil))) .sNil)))
def b29 : I := (.sCons (.sAsg (.gv 4) (.blt .max2 (.acons (.blt .len (.acons (.var 1) .anil)) (.acons (.blt .len (.acons (.var 2) .anil)) .anil)))) (.sCons (.sPar2 5 6 (.bin .add (.blt .list (.acons (.var 1) .anil)) (.bin .mul (.lst (.acons (.cst (.int 0)) .anil)) (.bin .sub (.var 4) (.blt .len (.acons (.var 1) .anil))))) (.bin .add (.blt .list (.acons (.var 2) .anil)) (.bin .mul (.lst (.acons (.cst (.int 0)) .anil)) (.bin .sub (.var 4) (.blt .len (.acons (.var 2) .anil)))))) (.sCons (.sRet (.cal 28 (.acons (.lc (.gt (.gcons (.gv 7) (.gcons (.gv 8) .gnil))) (.iZ (.var 5) (.var 6)) (.cst (.bl true)) (.bin .mod (.bin .add (.var 7) (.bin .mul (.var 3) (.var 8))) (.var 0)) [7, 8]) .anil))) .sNil)))
def b30 : I := (.sCons (.sAsg (.gv 3) (.bin .mul (.lst (.acons (.cst (.int 0)) .anil)) (.bin .add (.blt .len (.acons (.var 1) .anil)) (.blt .len (.acons (.var 2) .anil))))) (.sCons (.sFor (.gt (.gcons (.gv 4) (.gcons (.gv 5) .gnil))) (.iE (.var 1)) (.sCons (.sFor (.gt (.gcons (.gv 6) (.gcons (.gv 7) .gnil))) (.iE (.var 2)) (.sCons (.sAsg (.gx (.var 3) (.bin .add (.var 4) (.var 6))) (.bin .mod (.bin .add (.ix (.var 3) (.bin .add (.var 4) (.var 6))) (.bin .mul (.var 5) (.var 7))) (.var 0))) .sNil)) .sNil)) (.sCons (.sRet (.cal 28 (.acons (.var 3) .anil))) .sNil)))
def b31 : I := (.sCons (.sRet (.ix (.lc (.gv 2) (.iR (.acons (.cst (.int 1)) (.acons (.var 0) .anil))) (.cmp .eq (.bin .mod (.bin .mul (.var 2) (.var 1)) (.var 0)) (.cst (.int 1))) (.var 2) [2]) (.cst (.int 0)))) .sNil)
def b32 : I := (.sCons (.sPar2 4 5 (.var 1) (.bin .mul (.lst (.acons (.cst (.int 0)) .anil)) (.blt .max2 (.acons (.cst (.int 1)) (.acons (.bin .add (.bin .sub (.blt .len (.acons (.var 1) .anil)) (.blt .len (.acons (.var 2) .anil))) (.cst (.int 1))) .anil))))) (.sCons (.sAsg (.gv 3) (.cal 31 (.acons (.var 0) (.acons (.ix (.var 2) (.neg (.cst (.int 1)))) .anil)))) (.sCons (.sWh (.cmp .ge (.blt .len (.acons (.var 4) .anil)) (.blt .len (.acons (.var 2) .anil))) (.sCons (.sPar2 6 7 (.bin .sub (.blt .len (.acons (.var 4) .anil)) (.blt .len (.acons (.var 2) .anil))) (.bin .mod (.bin .mul (.ix (.var 4) (.neg (.cst (.int 1)))) (.var 3)) (.var 0))) (.sCons (.sAsg (.gx (.var 5) (.var 6)) (.var 7)) (.sCons (.sAsg (.gv 4) (.cal 29 (.acons (.var 0) (.acons (.var 4) (.acons (.bin .add (.bin .mul (.tup (.acons (.cst (.int 0)) .anil)) (.var 6)) (.blt .tuple (.acons (.var 2) .anil))) (.acons (.bin .sub (.cst (.int 0)) (.var 7)) .anil)))))) .sNil)))) (.sCons (.sRet (.tup (.acons (.cal 28 (.acons (.var 5) .anil)) (.acons (.var 4) .anil)))) .sNil))))
def b33 : I := (.sCons (.sWh (.cmp .ne (.var 2) (.tup .anil)) (.sCons (.sPar2 1 2 (.var 2) (.ix (.cal 32 (.acons (.var 0) (.acons (.var 1) (.acons (.var 2) .anil)))) (.cst (.int 1)))) .sNil)) (.sCons (.sIf (.cmp .eq (.var 1) (.tup .anil)) (.sCons (.sRet (.tup .anil)) .sNil) .sNil) (.sCons (.sAsg (.gv 3) (.cal 31 (.acons (.var 0) (.acons (.ix (.var 1) (.neg (.cst (.int 1)))) .anil)))) (.sCons (.sRet (.blt .tuple (.acons (.lc (.gv 4) (.iS (.var 1)) (.cst (.bl true)) (.bin .mod (.bin .mul (.var 3) (.var 4)) (.var 0)) [4]) .anil))) .sNil))))
def b34 : I := (.sCons (.sAsg (.gv 3) (.cal 26 (.acons (.var 0) (.acons (.bin .add (.var 2) (.cst (.int 2))) .anil)))) (.sCons (.sRet (.cal 28 (.acons (.lc (.gv 4) (.iR (.acons (.var 3) .anil)) (.cst (.bl true)) (.cal 26 (.acons (.var 0) (.acons (.var 1) .anil))) [4]) .anil))) .sNil))
def b35 : I := (.sCons (.sIf (.or (.not (.tv (.isi .isTupB (.var 1)))) (.one (.cmp .gt (.blt .len (.acons (.var 1) .anil)) (.cst (.int 13))))) (.sCons (.sRet (.cst (.bl false))) .sNil) .sNil) (.sCons (.sIf (.cmp .ne (.lc (.gv 2) (.iS (.var 1)) (.or (.not (.tv (.isi .isIntB (.var 2)))) (.one (.tv (.isi .isBoolB (.var 2))))) (.var 2) [2]) (.lst .anil)) (.sCons (.sRet (.cst (.bl false))) .sNil) .sNil) (.sCons (.sRet (.and (.cmp .eq (.lc (.gv 2) (.iS (.var 1)) (.not (.chn .le .lt (.cst (.int 0)) (.var 2) (.var 0))) (.var 2) [2]) (.lst .anil)) (.one (.or (.cmp .eq (.var 1) (.tup .anil)) (.one (.cmp .ne (.ix (.var 1) (.neg (.cst (.int 1)))) (.cst (.int 0)))))))) .sNil)))
def b36 : I := (.sCons (.sAsg (.gv 3) (.lst (.acons (.var 2) (.acons (.blt .list (.acons (.var 2) .anil)) (.acons (.bin .add (.var 2) (.tup (.acons (.cst (.int 0)) .anil))) (.acons (.bin .add (.var 2) (.tup (.acons (.cst (.int 1)) .anil))) (.acons (.bin .add (.var 2) (.tup (.acons (.var 1) .anil))) (.acons (.bin .add (.var 2) (.tup (.acons (.neg (.cst (.int 1))) .anil))) (.acons (.bin .add (.tup (.acons (.cst (.bl true)) .anil)) (.var 2)) (.acons (.cst .non) .anil)))))))))) (.sCons (.sAsg (.gv 3) (.bin .add (.var 3) (.lst (.acons (.cst (.int 0)) (.acons (.cst (.str "1")) (.acons .dct (.acons (.tup (.acons (.cst (.int 0)) .anil)) (.acons (.bin .mul (.tup (.acons (.cst (.int 1)) .anil)) (.cst (.int 13))) (.acons (.bin .mul (.tup (.acons (.cst (.int 1)) .anil)) (.cst (.int 14))) (.acons (.bin .add (.bin .mul (.tup (.acons (.cst (.int 0)) .anil)) (.cst (.int 12))) (.tup (.acons (.cst (.int 1)) .anil))) (.acons (.bin .add (.bin .mul (.tup (.acons (.cst (.int 0)) .anil)) (.cst (.int 13))) (.tup (.acons (.cst (.int 1)) .anil))) .anil))))))))))) (.sCons (.sAsg (.gv 3) (.bin .add (.var 3) (.lst (.acons (.tup (.acons (.bin .add (.bin .pow (.cst (.int 10)) (.cst (.int 60))) (.cst (.int 1))) .anil)) (.acons (.tup (.acons (.tup (.acons (.cst (.int 1)) .anil)) .anil)) (.acons (.tup (.acons (.cst (.str "1")) .anil)) .anil)))))) (.sCons (.sAsg (.gv 3) (.bin .add (.var 3) (.lst (.acons (.sl (.var 2) .pno (.po (.neg (.cst (.int 1))))) (.acons (.sl (.var 2) (.po (.cst (.int 1))) .pno) (.acons (.tup (.acons (.bin .sub (.var 1) (.cst (.int 1))) .anil)) (.acons (.tup (.acons (.bin .add (.var 1) (.cst (.int 1))) .anil)) (.acons (.tup (.acons (.cst (.int 1)) (.acons (.cst .non) .anil))) .anil)))))))) (.sCons (.sRet (.bin .add (.var 3) (.lst (.acons (.tup (.acons (.cal 26 (.acons (.var 0) (.acons (.cst (.int 9)) .anil))) (.acons (.cal 26 (.acons (.var 0) (.acons (.cst (.int 9)) .anil))) .anil))) .anil)))) .sNil)))))
def b37 : I := (.sCons (.sAsg (.gv 1) (.cal 27 (.acons (.var 0) (.acons (.lst (.acons (.cst (.int 2)) (.acons (.cst (.int 3)) (.acons (.cst (.int 5)) (.acons (.cst (.int 7)) .anil))))) .anil)))) (.sCons (.sPar2 3 4 (.cal 34 (.acons (.var 0) (.acons (.var 1) (.acons (.cst (.int 12)) .anil)))) (.cal 34 (.acons (.var 0) (.acons (.var 1) (.acons (.cal 27 (.acons (.var 0) (.acons (.lst (.acons (.cst (.int 1)) (.acons (.cst (.int 3)) (.acons (.cst (.int 6)) (.acons (.cst (.int 12)) .anil))))) .anil))) .anil))))) (.sCons (.sPar2 5 6 (.cal 29 (.acons (.var 1) (.acons (.var 3) (.acons (.var 4) (.acons (.cst (.int 1)) .anil))))) (.cal 29 (.acons (.var 1) (.acons (.var 3) (.acons (.var 4) (.acons (.neg (.cst (.int 1))) .anil)))))) (.sCons (.sIf (.or (.cmp .ne (.cal 20 (.acons (.var 1) (.acons (.var 3) (.acons (.var 4) .anil)))) (.var 5)) (.one (.cmp .ne (.cal 21 (.acons (.var 1) (.acons (.var 3) (.acons (.var 4) .anil)))) (.var 6)))) (.sCons (.sRet (.cst (.bl false))) .sNil) .sNil) (.sCons (.sIf (.or (.cmp .ne (.cal 21 (.acons (.var 1) (.acons (.var 5) (.acons (.var 4) .anil)))) (.var 3)) (.one (.cmp .ne (.cal 20 (.acons (.var 1) (.acons (.var 6) (.acons (.var 4) .anil)))) (.var 3)))) (.sCons (.sRet (.cst (.bl false))) .sNil) .sNil) (.sCons (.sIf (.cmp .ne (.cal 22 (.acons (.var 1) (.acons (.var 3) (.acons (.var 4) .anil)))) (.cal 30 (.acons (.var 1) (.acons (.var 3) (.acons (.var 4) .anil))))) (.sCons (.sRet (.cst (.bl false))) .sNil) .sNil) (.sCons (.sIf (.or (.cmp .ne (.cal 22 (.acons (.var 1) (.acons (.var 4) (.acons (.var 3) .anil)))) (.cal 30 (.acons (.var 1) (.acons (.var 3) (.acons (.var 4) .anil))))) (.one (.cmp .ne (.cal 22 (.acons (.var 1) (.acons (.var 3) (.acons (.tup .anil) .anil)))) (.tup .anil)))) (.sCons (.sRet (.cst (.bl false))) .sNil) .sNil) (.sCons (.sIf (.cmp .ne (.cal 24 (.acons (.var 1) (.acons (.var 3) (.acons (.var 4) .anil)))) (.cal 33 (.acons (.var 1) (.acons (.var 3) (.acons (.var 4) .anil))))) (.sCons (.sRet (.cst (.bl false))) .sNil) .sNil) (.sCons (.sIf (.cmp .ne (.cal 24 (.acons (.var 1) (.acons (.var 3) (.acons (.tup .anil) .anil)))) (.cal 33 (.acons (.var 1) (.acons (.var 3) (.acons (.tup .anil) .anil))))) (.sCons (.sRet (.cst (.bl false))) .sNil) .sNil) (.sCons (.sIf (.cmp .ne (.var 4) (.tup .anil)) (.sCons (.sAsg (.gv 7) (.cal 23 (.acons (.var 1) (.acons (.var 3) (.acons (.var 4) .anil))))) (.sCons (.sIf (.or (.cmp .ne (.var 7) (.cal 32 (.acons (.var 1) (.acons (.var 3) (.acons (.var 4) .anil))))) (.one (.cmp .ge (.blt .len (.acons (.ix (.var 7) (.cst (.int 1))) .anil)) (.blt .len (.acons (.var 4) .anil))))) (.sCons (.sRet (.cst (.bl false))) .sNil) .sNil) (.sCons (.sIf (.cmp .ne (.cal 29 (.acons (.var 1) (.acons (.cal 30 (.acons (.var 1) (.acons (.ix (.var 7) (.cst (.int 0))) (.acons (.var 4) .anil)))) (.acons (.ix (.var 7) (.cst (.int 1))) (.acons (.cst (.int 1)) .anil))))) (.var 3)) (.sCons (.sRet (.cst (.bl false))) .sNil) .sNil) .sNil))) .sNil) (.sCons (.sAsg (.gv 2) (.cal 34 (.acons (.var 0) (.acons (.var 1) (.acons (.cst (.int 4)) .anil))))) (.sCons (.sPar2 8 9 (.cal 30 (.acons (.var 1) (.acons (.sl (.var 3) .pno (.po (.cst (.int 5)))) (.acons (.var 2) .anil)))) (.cal 30 (.acons (.var 1) (.acons (.sl (.var 4) .pno (.po (.cst (.int 5)))) (.acons (.var 2) .anil))))) (.sCons (.sIf (.and (.cmp .ne (.var 2) (.tup .anil)) (.one (.cmp .ne (.ix (.cal 32 (.acons (.var 1) (.acons (.cal 24 (.acons (.var 1) (.acons (.var 8) (.acons (.var 9) .anil)))) (.acons (.var 2) .anil)))) (.cst (.int 1))) (.tup .anil)))) (.sCons (.sRet (.cst (.bl false))) .sNil) .sNil) (.sCons (.sRet (.cmp .eq (.lc (.gv 10) (.iS (.cal 36 (.acons (.var 0) (.acons (.var 1) (.acons (.var 3) .anil))))) (.cmp .ne (.cal 19 (.acons (.var 1) (.acons (.var 10) .anil))) (.cal 35 (.acons (.var 1) (.acons (.var 10) .anil)))) (.var 10) [10]) (.lst .anil))) .sNil))))))))))))))
def b38 : I := (.sCons (.sFor (.gv 1) (.iR (.acons (.blt .max2 (.acons (.cst (.int 1)) (.acons (.blt .min2 (.acons (.cst (.int 2)) (.acons (.blt .len (.acons (.var 0) .anil)) .anil))) .anil))) .anil)) (.sCons (.sAsg (.gv 3) (.cal 25 (.acons (.var 0) (.acons (.var 1) .anil)))) (.sCons (.sIf (.or (.not (.tv (.cal 37 (.acons (.var 3) .anil)))) (.one (.not (.tv (.cal 37 (.acons (.var 3) .anil)))))) (.sCons (.sRet (.cst (.bl false))) .sNil) .sNil) .sNil))) (.sCons (.sAsg (.gv 2) (.lst (.acons (.cal 23 (.acons (.cst (.int 2)) (.acons (.tup (.acons (.cst (.int 1)) (.acons (.cst (.int 0)) (.acons (.cst (.int 1)) (.acons (.cst (.int 1)) .anil))))) (.acons (.tup (.acons (.cst (.int 1)) (.acons (.cst (.int 1)) .anil))) .anil)))) (.acons (.cal 24 (.acons (.cst (.int 3)) (.acons (.tup (.acons (.cst (.int 2)) (.acons (.cst (.int 0)) (.acons (.cst (.int 1)) .anil)))) (.acons (.tup (.acons (.cst (.int 1)) (.acons (.cst (.int 1)) .anil))) .anil)))) (.acons (.cal 24 (.acons (.cst (.int 5)) (.acons (.tup .anil) (.acons (.tup .anil) .anil)))) .anil))))) (.sCons (.sIf (.or (.cmp .ne (.var 2) (.lst (.acons (.tup (.acons (.tup (.acons (.cst (.int 0)) (.acons (.cst (.int 0)) (.acons (.cst (.int 1)) .anil)))) (.acons (.tup (.acons (.cst (.int 1)) .anil)) .anil))) (.acons (.tup (.acons (.cst (.int 1)) (.acons (.cst (.int 1)) .anil))) (.acons (.tup .anil) .anil))))) (.one (.cmp .ne (.cal 22 (.acons (.cst (.int 7)) (.acons (.tup (.acons (.cst (.int 3)) .anil)) (.acons (.tup (.acons (.cst (.int 5)) .anil)) .anil)))) (.tup (.acons (.cst (.int 1)) .anil))))) (.sCons (.sRet (.cst (.bl false))) .sNil) .sNil) (.sCons (.sRet (.and (.cmp .eq (.cal 20 (.acons (.cst (.int 2)) (.acons (.tup (.acons (.cst (.int 1)) (.acons (.cst (.int 1)) .anil))) (.acons (.tup (.acons (.cst (.int 0)) (.acons (.cst (.int 1)) .anil))) .anil)))) (.tup (.acons (.cst (.int 1)) .anil))) (.one (.cmp .eq (.cal 21 (.acons (.cst (.int 7)) (.acons (.tup .anil) (.acons (.tup (.acons (.cst (.int 1)) (.acons (.cst (.int 6)) .anil))) .anil)))) (.tup (.acons (.cst (.int 6)) (.acons (.cst (.int 1)) .anil))))))) .sNil))))
def rs : List DefR := [⟨"is_whole", ["value"], ["value"], top 8, ⟨1, 1, b0⟩⟩,
  ⟨"is_within", ["value", "least", "greatest"], ["value", "least", "greatest"], top 9, ⟨3, 3, b1⟩⟩,
  ⟨"is_prime", ["value"], ["value"], top 10, ⟨1, 1, b2⟩⟩,
  ⟨"is_residue_row", ["prime", "width", "value"], ["prime", "width", "value", "one"], top 11, ⟨3, 4, b3⟩⟩,
  ⟨"undone_residue", ["prime", "residue"], ["prime", "residue"], top 12, ⟨2, 2, b4⟩⟩,
  ⟨"require_prime", ["value"], ["value"], top 13, ⟨1, 1, b5⟩⟩,
  ⟨"zero_row", ["width"], ["width"], top 15, ⟨1, 1, b6⟩⟩,
  ⟨"scaled_row", ["prime", "factor", "row"], ["prime", "factor", "row", "one"], top 16, ⟨3, 4, b7⟩⟩,
  ⟨"added_row", ["prime", "row", "other", "factor"], ["prime", "row", "other", "factor", "one", "two"], top 17, ⟨4, 6, b8⟩⟩,
  ⟨"trimmed", ["prime", "numbers"], ["prime", "numbers", "found", "number"], top 20, ⟨2, 4, b9⟩⟩,
  ⟨"poly_added", ["prime", "one", "other", "factor"], ["prime", "one", "other", "factor", "size", "left", "right"], top 21, ⟨4, 7, b10⟩⟩,
  ⟨"poly_times", ["prime", "one", "other"], ["prime", "one", "other", "found", "at", "first", "to", "second"], top 22, ⟨3, 8, b11⟩⟩,
  ⟨"poly_divided", ["prime", "one", "other"], ["prime", "one", "other", "factor", "at", "left", "found", "size", "to", "number"], top 23, ⟨3, 10, b12⟩⟩,
  ⟨"poly_monic", ["prime", "poly"], ["prime", "poly"], top 24, ⟨2, 2, b13⟩⟩,
  ⟨"poly_gcd", ["prime", "one", "other"], ["prime", "one", "other"], top 25, ⟨3, 3, b14⟩⟩,
  ⟨"is_poly_in", ["prime", "value"], ["prime", "value"], top 26, ⟨2, 2, b15⟩⟩,
  ⟨"require_poly", ["prime", "value"], ["prime", "value"], top 27, ⟨2, 2, b16⟩⟩,
  ⟨"require_prime_and_poly", ["prime", "poly"], ["prime", "poly"], top 28, ⟨2, 2, b17⟩⟩,
  ⟨"require_two_polys", ["prime", "one", "other"], ["prime", "one", "other"], top 29, ⟨3, 3, b18⟩⟩,
  ⟨"is_poly", ["prime", "value"], ["prime", "value"], top 30, ⟨2, 2, b19⟩⟩,
  ⟨"poly_sum", ["prime", "one", "other"], ["prime", "one", "other"], top 31, ⟨3, 3, b20⟩⟩,
  ⟨"poly_less", ["prime", "one", "other"], ["prime", "one", "other"], top 32, ⟨3, 3, b21⟩⟩,
  ⟨"poly_product", ["prime", "one", "other"], ["prime", "one", "other"], top 33, ⟨3, 3, b22⟩⟩,
  ⟨"poly_parts", ["prime", "one", "other"], ["prime", "one", "other"], top 34, ⟨3, 3, b23⟩⟩,
  ⟨"poly_shared", ["prime", "one", "other"], ["prime", "one", "other"], top 35, ⟨3, 3, b24⟩⟩,
  ⟨"_law_pot", ["_law_script", "_law_spot"], ["_law_script", "_law_spot", "_law_cell", "_law_great"], top 37, ⟨2, 4, b25⟩⟩,
  ⟨"_law_ladle", ["_law_pot_here", "_law_total"], ["_law_pot_here", "_law_total", "_law_one", "_law_two", "_law_found"], top 38, ⟨2, 5, b26⟩⟩,
  ⟨"_law_pick", ["_law_pot_here", "_law_items"], ["_law_pot_here", "_law_items"], top 39, ⟨2, 2, b27⟩⟩,
  ⟨"_law_trimmed", ["_law_numbers"], ["_law_numbers", "_law_size"], top 40, ⟨1, 2, b28⟩⟩,
  ⟨"_law_plus", ["_law_prime", "_law_one", "_law_other", "_law_factor"], ["_law_prime", "_law_one", "_law_other", "_law_factor", "_law_size", "_law_first", "_law_second", "_law_a", "_law_b"], top 41, ⟨4, 9, b29⟩⟩,
  ⟨"_law_times", ["_law_prime", "_law_one", "_law_other"], ["_law_prime", "_law_one", "_law_other", "_law_found", "_law_at", "_law_a", "_law_to", "_law_b"], top 42, ⟨3, 8, b30⟩⟩,
  ⟨"_law_undone", ["_law_prime", "_law_number"], ["_law_prime", "_law_number", "_law_one"], top 43, ⟨2, 3, b31⟩⟩,
  ⟨"_law_divided", ["_law_prime", "_law_one", "_law_other"], ["_law_prime", "_law_one", "_law_other", "_law_last", "_law_left", "_law_found", "_law_at", "_law_factor"], top 44, ⟨3, 8, b32⟩⟩,
  ⟨"_law_shared", ["_law_prime", "_law_one", "_law_other"], ["_law_prime", "_law_one", "_law_other", "_law_factor", "_law_number"], top 45, ⟨3, 5, b33⟩⟩,
  ⟨"_law_drawn_poly", ["_law_pot_here", "_law_prime", "_law_most"], ["_law_pot_here", "_law_prime", "_law_most", "_law_size", "_law_place"], top 46, ⟨3, 5, b34⟩⟩,
  ⟨"_law_is_due", ["_law_prime", "_law_value"], ["_law_prime", "_law_value", "_law_one"], top 47, ⟨2, 3, b35⟩⟩,
  ⟨"_law_near", ["_law_pot_here", "_law_prime", "_law_poly"], ["_law_pot_here", "_law_prime", "_law_poly", "_law_found"], top 48, ⟨3, 4, b36⟩⟩,
  ⟨"_law_right", ["_law_pot_here"], ["_law_pot_here", "_law_prime", "_law_third", "_law_one", "_law_other", "_law_total", "_law_less", "_law_told", "_law_first", "_law_second", "_law_value"], top 49, ⟨1, 11, b37⟩⟩,
  ⟨"law", ["_law_script"], ["_law_script", "_law_spot", "_law_told", "_law_pot_here"], top 50, ⟨1, 4, b38⟩⟩]
def lw : Lw := ⟨rs, ["isinstance", "int", "bool", "tuple", "len", "all", "zip", "max", "enumerate", "list", "range", "abs", "min"], [("PRIMES", (.tup [(.int 2), (.int 3), (.int 5), (.int 7)])), ("MAX_DEGREE", (.int 12))], [("UNDONE", [(2, (.tup [(.int 0), (.int 1)])), (3, (.tup [(.int 0), (.int 1), (.int 2)])), (5, (.tup [(.int 0), (.int 1), (.int 3), (.int 2), (.int 4)])), (7, (.tup [(.int 0), (.int 1), (.int 4), (.int 5), (.int 2), (.int 3), (.int 6)]))])]⟩
abbrev P : Pg := lw.P
theorem fs0 : P.fs[0]? = some ⟨1, 1, b0⟩ := rfl
theorem fs1 : P.fs[1]? = some ⟨3, 3, b1⟩ := rfl
theorem fs2 : P.fs[2]? = some ⟨1, 1, b2⟩ := rfl
theorem fs3 : P.fs[3]? = some ⟨3, 4, b3⟩ := rfl
theorem fs4 : P.fs[4]? = some ⟨2, 2, b4⟩ := rfl
theorem fs5 : P.fs[5]? = some ⟨1, 1, b5⟩ := rfl
theorem fs6 : P.fs[6]? = some ⟨1, 1, b6⟩ := rfl
theorem fs7 : P.fs[7]? = some ⟨3, 4, b7⟩ := rfl
theorem fs8 : P.fs[8]? = some ⟨4, 6, b8⟩ := rfl
theorem fs9 : P.fs[9]? = some ⟨2, 4, b9⟩ := rfl
theorem fs10 : P.fs[10]? = some ⟨4, 7, b10⟩ := rfl
theorem fs11 : P.fs[11]? = some ⟨3, 8, b11⟩ := rfl
theorem fs12 : P.fs[12]? = some ⟨3, 10, b12⟩ := rfl
theorem fs13 : P.fs[13]? = some ⟨2, 2, b13⟩ := rfl
theorem fs14 : P.fs[14]? = some ⟨3, 3, b14⟩ := rfl
theorem fs15 : P.fs[15]? = some ⟨2, 2, b15⟩ := rfl
theorem fs16 : P.fs[16]? = some ⟨2, 2, b16⟩ := rfl
theorem fs17 : P.fs[17]? = some ⟨2, 2, b17⟩ := rfl
theorem fs18 : P.fs[18]? = some ⟨3, 3, b18⟩ := rfl
theorem fs19 : P.fs[19]? = some ⟨2, 2, b19⟩ := rfl
theorem fs20 : P.fs[20]? = some ⟨3, 3, b20⟩ := rfl
theorem fs21 : P.fs[21]? = some ⟨3, 3, b21⟩ := rfl
theorem fs22 : P.fs[22]? = some ⟨3, 3, b22⟩ := rfl
theorem fs23 : P.fs[23]? = some ⟨3, 3, b23⟩ := rfl
theorem fs24 : P.fs[24]? = some ⟨3, 3, b24⟩ := rfl
theorem fs25 : P.fs[25]? = some ⟨2, 4, b25⟩ := rfl
theorem fs26 : P.fs[26]? = some ⟨2, 5, b26⟩ := rfl
theorem fs27 : P.fs[27]? = some ⟨2, 2, b27⟩ := rfl
theorem fs28 : P.fs[28]? = some ⟨1, 2, b28⟩ := rfl
theorem fs29 : P.fs[29]? = some ⟨4, 9, b29⟩ := rfl
theorem fs30 : P.fs[30]? = some ⟨3, 8, b30⟩ := rfl
theorem fs31 : P.fs[31]? = some ⟨2, 3, b31⟩ := rfl
theorem fs32 : P.fs[32]? = some ⟨3, 8, b32⟩ := rfl
theorem fs33 : P.fs[33]? = some ⟨3, 5, b33⟩ := rfl
theorem fs34 : P.fs[34]? = some ⟨3, 5, b34⟩ := rfl
theorem fs35 : P.fs[35]? = some ⟨2, 3, b35⟩ := rfl
theorem fs36 : P.fs[36]? = some ⟨3, 4, b36⟩ := rfl
theorem fs37 : P.fs[37]? = some ⟨1, 11, b37⟩ := rfl
theorem fs38 : P.fs[38]? = some ⟨1, 4, b38⟩ := rfl
end K4
namespace K4
open Ev
theorem okR4 : (lw.rs.all fun r => okR lw.M r) = true := by decide +kernel
end K4
-- K4a
namespace K4
open PySem Ev Ev.Rx Pm
theorem pyEq_int (h : Hh) (i j : Int) : pyEq h (.int i) (.int j) = some (decide (i = j)) := by
  show some (PyData.eqv (.int i) (.int j)) = _
  unfold PyData.eqv
  rfl
theorem pyEq_bl (h : Hh) (i j : Bool) : pyEq h (.bl i) (.bl j) = some (decide (i = j)) := by
  show some (PyData.eqv (.bool i) (.bool j)) = _
  unfold PyData.eqv
  cases i <;> cases j <;> rfl
theorem lay_ints (xs : List Int) : PyData.canLayAll0 (xs.map PyData.int) = true := by
  induction xs with
  | nil => unfold PyData.canLayAll0; rfl
  | cons x xs ih =>
    rw [List.map_cons]
    unfold PyData.canLayAll0
    rw [ih]
    unfold PyData.canLay0
    rfl
theorem eqv_ints : ∀ (xs ys : List Int), PyData.eqvAll (xs.map PyData.int) (ys.map PyData.int) = decide (xs = ys)
  | [], [] => by unfold PyData.eqvAll; rfl
  | [], y :: ys => by rw [List.map_cons]; unfold PyData.eqvAll; rfl
  | x :: xs, [] => by rw [List.map_cons]; unfold PyData.eqvAll; rfl
  | x :: xs, y :: ys => by
    rw [List.map_cons, List.map_cons]
    unfold PyData.eqvAll
    rw [eqv_ints xs ys]
    unfold PyData.eqv
    by_cases h : x = y
    · subst h; simp
    · simp [h]
theorem eq_lay (xs : List Int) : PyData.canLay0 (.tuple (xs.map PyData.int)) = true := by
  unfold PyData.canLay0
  exact lay_ints xs
theorem eq_layL (xs : List Int) : PyData.canLay0 (.list (xs.map PyData.int)) = true := by
  unfold PyData.canLay0
  exact lay_ints xs
theorem pyEq_tup (h : Hh) (xs ys : List Int) : pyEq h (.tup (intL xs)) (.tup (intL ys)) = some (decide (xs = ys)) := by
  unfold pyEq
  rw [py_tup h 18 xs, py_tup h 18 ys]
  dsimp only
  rw [eq_lay, eq_lay, ← eqv_ints]
  unfold PyData.eqv
  rfl
theorem py_lst {h : Hh} {a : Nat} {xs : List Int} (e : h[a]? = some (intL xs)) (n : Nat) : py h (n + 2) (.ptr a) = some (.list (xs.map PyData.int)) := by
  show (match h[a]? with | some ds => (match mapO (py h (n + 1)) ds with | some ps => some (PyData.list ps) | none => none) | none => none) = _
  rw [e]
  dsimp only
  rw [mapO_intL]
theorem pyEq_lst {h : Hh} {a b : Nat} {xs ys : List Int} (e : h[a]? = some (intL xs)) (e2 : h[b]? = some (intL ys)) : pyEq h (.ptr a) (.ptr b) = some (decide (xs = ys)) := by
  unfold pyEq
  rw [py_lst e 18, py_lst e2 18]
  dsimp only
  rw [eq_layL, eq_layL, ← eqv_ints]
  unfold PyData.eqv
  rfl
theorem bi_all0 {α : Type} (f : α → Bool) (xs : List α) (h : Hh) : builtin .all [.ptr h.length] (h ++ [xs.map fun x => D.bl (f x)]) = .ok (.bl (xs.all f)) (h ++ [xs.map fun x => D.bl (f x)]) := by
  rw [bi_all (by rw [h_get0]; rfl) (bls_map f xs)]
  simp
theorem bi_tup0 (ds : List D) (h : Hh) : builtin .tuple [.ptr h.length] (h ++ [ds]) = .ok (mkT ds) (h ++ [ds]) := bi_tuple (by rw [h_get0]; rfl)
/-! the small ones -/
theorem r_whole (n : Nat) (v : D) (kv : known v = true) (h : Hh) : callF P (n + 10) 0 [v] h = .ok (.bl (tyI v && !tyB v)) h := by
  rw [callF_at P fs0 rfl]
  have u := known_una kv
  simp [b0, isi_int kv, isi_bl kv, u, h_take0]
  by_cases c : tyI v = true
  · simp [c, h_take0]
  · simp [c, h_take0]
theorem r_within (n : Nat) (v : D) (kv : known v = true) (a b : Int) (h : Hh) : callF P (n + 20) 1 [v, .int a, .int b] h = .ok (.bl (match v with | .int i => decide (a ≤ i) && decide (i ≤ b) | _ => false)) h := by
  rw [callF_at P fs1 rfl]
  have u := known_una kv
  simp [b1, u, r_whole _ v kv]
  cases v with
  | int i =>
    by_cases c : a ≤ i
    · simp [c, tyI, tyB, h_take0]
    · simp [c, tyI, tyB, h_take0]
  | _ => simp [tyI, tyB, h_take0]
theorem cs0 : P.cs[0]? = some (.tup [.int 2, .int 3, .int 5, .int 7]) := rfl
theorem cs1 : P.cs[1]? = some (.int 12) := rfl
theorem mem_prime {p : Int} (hp : p ∈ primes) (h : Hh) : memH h (.int p) (.tup [.int 2, .int 3, .int 5, .int 7]) = some true := by
  have : p = 2 ∨ p = 3 ∨ p = 5 ∨ p = 7 := by simpa [primes] using hp
  rcases this with rfl | rfl | rfl | rfl <;> rfl
theorem pr_pos {p : Int} (hp : p ∈ primes) : 2 ≤ p ∧ p ≤ 7 := by
  have : p = 2 ∨ p = 3 ∨ p = 5 ∨ p = 7 := by simpa [primes] using hp
  omega
theorem r_prime (n : Nat) (p : Int) (hp : p ∈ primes) (h : Hh) : callF P (n + 20) 2 [.int p] h = .ok (.bl true) h := by
  rw [callF_at P fs2 rfl]
  simp [b2, r_whole, cs0, mem_prime hp, h_take0]
theorem r_reqprime (n : Nat) (p : Int) (hp : p ∈ primes) (h : Hh) : callF P (n + 30) 5 [.int p] h = .ok .non h := by
  rw [callF_at P fs5 rfl]
  simp [b5, r_prime _ p hp, h_take0]
/-! rows in range -/
def inR (p : Int) : D → Bool
  | .int i => decide (0 ≤ i) && decide (i ≤ p - 1)
  | _ => false
theorem r_row (n : Nat) (p w : Int) (v : D) (kv : known v = true) (hv : ∀ ds, v = .tup ds → (∀ d ∈ ds, known d = true) ∧ ds.length ≤ 1000) (nm : ∀ ds, v ≠ .mtp ds) (h : Hh) :
    callF P (n + 40) 3 [.int p, .int w, v] h = .ok (.bl (match v with | .tup ds => decide ((ds.length : Int) = w) && ds.all (inR p) | _ => false)) h := by
  rw [callF_at P fs3 rfl]
  have u := known_una kv
  cases v with
  | tup ds =>
    obtain ⟨k1, k2⟩ := hv ds rfl
    have lc : ∀ m, loopC (.sq (.tup ds)) (lcT P (m + 25) (.gv 3) (.cst (.bl true)) (.cal 1 (.acons (.var 3) (.acons (.cst (.int 0)) (.acons (.bin .sub (.var 0) (.cst (.int 1))) .anil)))) [3] [.int p, .int w, .tup ds, .una]) turns 0 [] h = .oks (ds.map fun d => .bl (inR p d)) h := fun m =>
      loopC_map _ ds (fun i _ => rfl) (fun x hx => by
        rw [lcT_eq]
        simp [wipeD, known_una (k1 x hx), r_within _ x (k1 x hx)]
        cases x <;> rfl) (by omega)
    simp [b3, isi_tup, tyT, pyEq_int, sqK]
    by_cases c : (ds.length : Int) = w
    · simp [c, h_take0, lc, newL0, bi_all0, h_take]
    · simp [c, h_take0]
  | mtp ds => exact absurd rfl (nm ds)
  | _ => simp [b3, u, isi_tup kv, tyT, h_take0]
end K4
-- K4b
namespace K4
open PySem Ev Ev.Rx Pm
@[simp] theorem tupK_nil (h : Hh) : tupK [] h = .ok (.tup []) h := rfl
theorem tupK_i1 (a : Int) (h : Hh) : tupK [.int a] h = .ok (.tup [.int a]) h := rfl
@[simp] theorem lstK_nil (h : Hh) : lstK [] h = newL h [] := rfl
@[simp] theorem lstK_i1 (d : D) (h : Hh) : lstK [d] h = newL h [d] := rfl
theorem small_abs {n : Nat} (h : n ≤ 1000000) : ((n : Int)).natAbs < 2 ^ 62 := by
  rw [Int.natAbs_natCast]
  exact Nat.lt_of_le_of_lt h (by decide)
theorem rep1T {n : Nat} (x : Int) (hn : n ≤ 1000000) (h : Hh) : binop .mul (.tup [.int x]) (.int (n : Int)) h = .ok (.tup (intL (List.replicate n x))) h := by
  rw [bin_repT (by simp; omega) (small_abs hn), Int.toNat_natCast, intL_rep]
theorem rep1L {a n : Nat} (x : Int) {h : Hh} (e : h[a]? = some [.int x]) (hn : n ≤ 1000000) : binop .mul (.ptr a) (.int (n : Int)) h = newL h (intL (List.replicate n x)) := by
  rw [bin_repL e (by simp; omega) (small_abs hn), Int.toNat_natCast, intL_rep]
theorem r_zero (n w : Nat) (hw : w ≤ 1000000) (h : Hh) : callF P (n + 20) 6 [.int (w : Int)] h = .ok (.tup (intL (List.replicate w 0))) h := by
  rw [callF_at P fs6 rfl]
  simp [b6, tupK_i1, rep1T 0 hw, h_take0]
/-- zip of two rows -/
theorem lc_zip {x y : D} {h : Hh} {f : D → Hh → R} (xs ys : List Int) (g : Int → Int → Int) (ex : itemsOf h x = some (intL xs)) (ey : itemsOf h y = some (intL ys)) (hl : xs.length = ys.length) (hs : xs.length < 1000000)
    (hf : ∀ a b, a ∈ xs → b ∈ ys → f (.tup [.int a, .int b]) h = .ok (.int (g a b)) h) : loopC (.zp x y) f turns 0 [] h = .oks (intL ((xs.zip ys).map fun q => g q.1 q.2)) h := by
  have := loopC_map (s := .zp x y) (f := f) (h := h) (fun d => match d with | .tup [.int a, .int b] => .int (g a b) | _ => .non) ((xs.zip ys).map fun q => D.tup [.int q.1, .int q.2])
    (fun i hi => src_zp ex ey hl i (by simp at hi; omega)) (fun d hd => by
      obtain ⟨q, hq, rfl⟩ := List.mem_map.mp hd
      have := List.of_mem_zip hq
      exact hf q.1 q.2 this.1 this.2) (by simp; omega)
  rw [this]
  congr 1
  unfold intL
  rw [List.map_map, List.map_map]
  rfl
theorem lst_get {x : D} {xs : List Int} {h : Hh} {a : Nat} (hx : x = .tup (intL xs) ∨ (x = .ptr a ∧ h[a]? = some (intL xs))) : itemsOf h x = some (intL xs) := by
  rcases hx with rfl | ⟨rfl, e⟩
  · rfl
  · exact e
theorem r_added (n : Nat) (p c : Int) (hp : 0 < p) (hc : c.natAbs < 2 ^ 64) (x y : D) (xs ys : List Int) (h : Hh) (kx : isUna x = false) (ky : isUna y = false) (ex : itemsOf h x = some (intL xs)) (ey : itemsOf h y = some (intL ys)) (hl : xs.length = ys.length) (hs : xs.length < 1000000) :
    callF P (n + 30) 8 [.int p, x, y, .int c] h = .ok (.tup (intL ((xs.zip ys).map fun q => (q.1 + c * q.2) % p))) h := by
  rw [callF_at P fs8 rfl]
  have lc : ∀ m, loopC (.zp x y) (lcT P (m + 20) (.gt (.gcons (.gv 4) (.gcons (.gv 5) .gnil))) (.cst (.bl true)) (.bin .mod (.bin .add (.var 4) (.bin .mul (.var 3) (.var 5))) (.var 0)) [4, 5] [.int p, x, y, .int c, .una, .una]) turns 0 [] h = .oks (intL ((xs.zip ys).map fun q => (q.1 + c * q.2) % p)) h := fun m =>
    lc_zip xs ys (fun a b => (a + c * b) % p) ex ey hl hs fun a b _ _ => by
      rw [lcT_eq]
      simp [wipeD, binop_mul (mulOk_l hc), binop_mod (posI_of hp)]
  simp [b8, kx, ky, zpK_of ex ey, lc, newL0, bi_tup0, h_take]
theorem r_scaled (n : Nat) (p c : Int) (hp : 0 < p) (hc : c.natAbs < 2 ^ 64) (xs : List Int) (h : Hh) (hs : xs.length < 1000000) :
    callF P (n + 30) 7 [.int p, .int c, .tup (intL xs)] h = .ok (.tup (intL (xs.map fun x => c * x % p))) h := by
  rw [callF_at P fs7 rfl]
  have lc : ∀ m, loopC (.sq (.tup (intL xs))) (lcT P (m + 20) (.gv 3) (.cst (.bl true)) (.bin .mod (.bin .mul (.var 1) (.var 3)) (.var 0)) [3] [.int p, .int c, .tup (intL xs), .una]) turns 0 [] h = .oks (intL (xs.map fun x => c * x % p)) h := fun m =>
    lc_ints xs (fun x => c * x % p) (fun i _ => rfl) (fun x _ => by
      rw [lcT_eq]
      simp [wipeD, binop_mul (mulOk_l hc), binop_mod (posI_of hp)]) hs
  simp [b7, sqK, lc, newL0, bi_tup0, h_take]
end K4
-- K4c
namespace K4
open PySem Ev Ev.Rx Pm
theorem trim_snoc0 (xs : List Int) : trim (xs ++ [0]) = trim xs := trim_ext _ _ fun k => by
  have := co_app0 xs 1 k
  simpa using this
theorem trim_snoc (xs : List Int) {x : Int} (h : x ≠ 0) : trim (xs ++ [x]) = xs ++ [x] := by
  induction xs with
  | nil => simp [trim, h]
  | cons y ys ih =>
    show (match trim (ys ++ [x]) with | [] => if y = 0 then [] else [y] | z :: zs => y :: z :: zs) = _
    rw [ih]
    cases ys <;> rfl
theorem snoc_of (xs : List Int) : xs = [] ∨ ∃ ys y, xs = ys ++ [y] := by
  rcases List.eq_nil_or_concat xs with h | ⟨ys, y, h⟩
  · exact .inl h
  · exact .inr ⟨ys, y, by simpa using h⟩
def t9 : I := .and (.cmp .ne (.var 2) (.lst .anil)) (.one (.cmp .eq (.ix (.var 2) (.neg (.cst (.int 1)))) (.cst (.int 0))))
def w9 : I := .sCons (.sExp (.pop (.var 2))) .sNil
theorem get_in (h l : Hh) (i : Nat) (d : List D) (e : l[i]? = some d) : (h ++ l)[h.length + i]? = some d := by rw [h_get, e]
theorem pick1 {α : Type} {Q : Nat → α → Prop} (h : ∀ m, ∃ r, Q m r) : ∃ r : Nat → α, ∀ m, Q m (r m) := ⟨fun m => Classical.choose (h m), fun m => Classical.choose_spec (h m)⟩
theorem wh9 (p : Int) (v : D) (xs : List Int) (h : Hh) (hx : xs.length < 1000000) (m : Nat) :
    ∃ rest, c_wh P (m + 20) t9 w9 [.int p, v, .ptr h.length, .una] (h ++ [intL xs]) = .nx [.int p, v, .ptr h.length, .una] (h ++ (intL (trim xs) :: rest)) := by
  obtain ⟨σ', h', e, rest, e1, e2⟩ := loopW_inv
    (t := fun σ1 h1 => ev P (m + 20) t9 σ1 h1) (f := fun σ1 h1 => ev P (m + 20) w9 σ1 h1)
    (fun k σ hh => ∃ ys rest, k = ys.length ∧ trim ys = trim xs ∧ σ = [.int p, v, .ptr h.length, .una] ∧ hh = h ++ (intL ys :: rest))
    (fun σ hh => ∃ rest, σ = [.int p, v, .ptr h.length, .una] ∧ hh = h ++ (intL (trim xs) :: rest))
    (fun k σ hh ⟨ys, rest, ek, et, eσ, eh⟩ => by
      subst eσ eh
      have g0 : (h ++ (intL ys :: (rest ++ [[]])))[h.length]? = some (intL ys) := by rw [h_get0]; rfl
      have g1 : (h ++ (intL ys :: (rest ++ [[]])))[h.length + (rest.length + 1)]? = some (intL []) := by rw [h_get]; simp [intL]
      rcases snoc_of ys with rfl | ⟨zs, z, rfl⟩
      · refine ⟨false, h ++ (intL [] :: (rest ++ [[]])), ?_, fun _ => ⟨rest ++ [[]], rfl, ?_⟩, (fun e => by cases e)⟩
        · simp [t9, newL1, pyEq_lst g0 g1]
        · rw [← et]; rfl
      · by_cases hz : z = 0
        · subst hz
          refine ⟨true, h ++ (intL (zs ++ [0]) :: (rest ++ [[]])), ?_, (fun e => by cases e), fun _ => ⟨_, h ++ (intL zs :: (rest ++ [[]])), zs.length, by rw [ek]; simp, ?_, zs, rest ++ [[]], rfl, by rw [← et, trim_snoc0], rfl, rfl⟩⟩
          · simp [t9, newL1, pyEq_lst g0 g1, index_last (x := .ptr h.length) g0, pyEq_int]
          · simp [w9, popK_last g0, h_set0]
        · refine ⟨false, h ++ (intL (zs ++ [z]) :: (rest ++ [[]])), ?_, fun _ => ⟨rest ++ [[]], rfl, ?_⟩, (fun e => by cases e)⟩
          · simp [t9, newL1, pyEq_lst g0 g1, index_last (x := .ptr h.length) g0, pyEq_int, hz]
          · rw [← et, trim_snoc _ hz]) turns xs.length _ _ (by unfold turns; omega) ⟨xs, [], rfl, rfl, rfl, rfl⟩
  exact ⟨rest, by unfold c_wh; rw [e, e1, e2]⟩
theorem r_trimmed (n : Nat) (p : Int) (hp : 0 < p) (v : D) (xs : List Int) (h : Hh) (kv : isUna v = false) (ei : itemsOf h v = some (intL xs)) (hx : xs.length < 1000000) :
    callF P (n + 30) 9 [.int p, v] h = .ok (.tup (intL (nf p xs))) h := by
  rw [callF_at P fs9 rfl]
  have lc : ∀ m, loopC (.sq v) (lcT P (m + 20) (.gv 3) (.cst (.bl true)) (.bin .mod (.var 3) (.var 0)) [3] [.int p, v, .una, .una]) turns 0 [] h = .oks (intL (red p xs)) h := fun m =>
    lc_ints xs (fun x => x % p) (fun i _ => src_sq ei i) (fun x _ => by
      rw [lcT_eq]
      simp [wipeD, binop_mod (posI_of hp)]) hx
  obtain ⟨r, w⟩ := pick1 (wh9 p v (red p xs) h (by simpa [red] using hx))
  unfold t9 w9 at w
  simp [b9, kv, sqK_of ei, lc, newL0, ev_wh, w, nf]
  rw [bi_tuple (by rw [h_get0]; rfl)]
  simp [h_take]
end K4
-- K4d
namespace K4
open PySem Ev Ev.Rx Pm
theorem lst_of {ds : List D} (hl : ds.length ≤ 1000000) (h : Hh) : lstK ds h = newL h ds := lstK_of hl h
theorem max_cast {a b m : Nat} (e : m = max a b) : (if a < b then (b : Int) else (a : Int)) = (m : Int) := by
  subst e
  split <;> omega
theorem sub_cast {a m : Nat} (e : a ≤ m) : (m : Int) - (a : Int) = ((m - a : Nat) : Int) := by omega
theorem pad_ap (n : Nat) (xs : List Int) : intL xs ++ intL (List.replicate (n - xs.length) 0) = intL (padL n xs) := intL_app _ _
theorem r_polyadd (n : Nat) (p c : Int) (hp : 0 < p) (hc : c.natAbs < 2 ^ 64) (xs ys : List Int) (hx : xs.length ≤ 1000) (hy : ys.length ≤ 1000) (h : Hh) :
    callF P (n + 60) 10 [.int p, .tup (intL xs), .tup (intL ys), .int c] h = .ok (.tup (intL (addP p c xs ys))) h := by
  rw [callF_at P fs10 rfl]
  obtain ⟨m, em⟩ : ∃ m, m = max xs.length ys.length := ⟨_, rfl⟩
  have z1 := sub_cast (a := xs.length) (m := m) (by omega)
  have z2 := sub_cast (a := ys.length) (m := m) (by omega)
  have l1 := pad_len (n := m) (xs := xs) (by omega)
  have l2 := pad_len (n := m) (xs := ys) (by omega)
  have g0 : (h ++ [intL (padL m xs), intL (padL m ys)])[h.length]? = some (intL (padL m xs)) := by rw [h_get0]; rfl
  have g1 : (h ++ [intL (padL m xs), intL (padL m ys)])[h.length + 1]? = some (intL (padL m ys)) := by rw [h_get]; rfl
  simp [b10, max_cast em, z1, z2, r_zero _ _ (show m - xs.length ≤ 1000000 by omega), r_zero _ _ (show m - ys.length ≤ 1000000 by omega), lst_of, pad_ap, l1, l2, show m ≤ 1000000 by omega, newL0, newL1]
  rw [r_added _ p c hp hc (.ptr h.length) (.ptr (h.length + 1)) _ _ _ rfl rfl g0 g1 (by rw [l1, l2]) (by omega)]
  simp
  rw [r_trimmed _ p hp _ _ _ rfl rfl (by simp; omega)]
  simp [h_take]
  rw [addP_of hp (n := m) (by omega) (by omega) rfl]
end K4
namespace K4
open PySem Ev Ev.Rx Pm
/-! the law's own trimming -/
def t28 : I := .and (.cmp .gt (.var 1) (.cst (.int 0))) (.one (.cmp .eq (.ix (.var 0) (.bin .sub (.var 1) (.cst (.int 1)))) (.cst (.int 0))))
def w28 : I := .sCons (.sAsg (.gv 1) (.bin .sub (.var 1) (.cst (.int 1)))) .sNil
theorem take_trim (xs : List Int) : xs.take (trim xs).length = trim xs := by
  induction xs with
  | nil => rfl
  | cons x xs ih =>
    unfold trim
    cases e : trim xs with
    | nil => by_cases hx : x = 0 <;> simp [hx]
    | cons z zs => rw [e] at ih; simp at ih ⊢; exact ih
theorem take_snoc0 {xs : List Int} {k : Nat} (h : xs[k]? = some 0) : trim (xs.take (k + 1)) = trim (xs.take k) := by
  rw [List.take_add_one, h]
  exact trim_snoc0 _
theorem take_snoc1 {xs : List Int} {k : Nat} {x : Int} (h : xs[k]? = some x) (hx : x ≠ 0) : trim (xs.take (k + 1)) = xs.take (k + 1) := by
  rw [List.take_add_one, h]
  exact trim_snoc _ hx
theorem wh28 (a : Nat) (xs : List Int) (h : Hh) (ea : h[a]? = some (intL xs)) (hx : xs.length < 1000000) (m : Nat) :
    c_wh P (m + 20) t28 w28 [.ptr a, .int xs.length] h = .nx [.ptr a, .int (trim xs).length] h := by
  obtain ⟨σ', h', e, e1, e2⟩ := loopW_inv
    (t := fun σ1 h1 => ev P (m + 20) t28 σ1 h1) (f := fun σ1 h1 => ev P (m + 20) w28 σ1 h1)
    (fun k σ hh => k ≤ xs.length ∧ trim (xs.take k) = trim xs ∧ σ = [.ptr a, .int k] ∧ hh = h)
    (fun σ hh => σ = [.ptr a, .int (trim xs).length] ∧ hh = h)
    (fun k σ hh ⟨lk, et, eσ, eh⟩ => by
      subst eσ eh
      cases k with
      | zero =>
        refine ⟨false, hh, ?_, fun _ => ⟨?_, rfl⟩, (fun e => by cases e)⟩
        · simp [t28]
        · rw [← et]; rfl
      | succ k =>
        have ek : ((k + 1 : Nat) : Int) - 1 = (k : Int) := by omega
        have gk : xs[k]? = some (co xs k) := co_get (by omega)
        have ix : index (.ptr a) (.int (k : Int)) hh = .ok (.int (co xs k)) hh := index_nat (x := .ptr a) ea gk
        have pos : (0 : Int) < (k : Int) + 1 := by omega
        have ek2 : (k : Int) + 1 - 1 = (k : Int) := by omega
        by_cases hz : co xs k = 0
        · refine ⟨true, hh, ?_, (fun e => by cases e), fun _ => ⟨_, hh, k, by omega, ?_, by omega, ?_, rfl, rfl⟩⟩
          · simp [t28, ek2, ix, pyEq_int, hz, pos]
          · simp [w28, ek2]
          · rw [← et, take_snoc0 (by rw [gk, hz])]
        · refine ⟨false, hh, ?_, fun _ => ⟨?_, rfl⟩, (fun e => by cases e)⟩
          · simp [t28, ek2, ix, pyEq_int, hz, pos]
          · rw [← et, take_snoc1 gk hz]
            simp
            omega) turns xs.length _ _ (by unfold turns; omega) ⟨Nat.le_refl _, by rw [List.take_length], rfl, rfl⟩
  unfold c_wh
  rw [e, e1, e2]
end K4
-- K4e
namespace K4
open PySem Ev Ev.Rx Pm
theorem slice_toL {a k : Nat} {ds : List D} {h : Hh} (e : h[a]? = some ds) (hk : k ≤ ds.length) : slice (.ptr a) .non (.int (k : Int)) h = newL h (ds.take k) := by
  show (match h[a]? with | some ds => newL h (cut ds none (some (k : Int))) | none => .no) = _
  rw [e]
  show newL h ((ds.drop 0).take (min k ds.length - 0)) = _
  rw [Nat.min_eq_left hk]
  rfl
theorem slice_toT {k : Nat} {ds : List D} {h : Hh} (hk : k ≤ ds.length) : slice (.tup ds) .non (.int (k : Int)) h = .ok (.tup (ds.take k)) h := by
  show R.ok (.tup ((ds.drop 0).take (min k ds.length - 0))) h = _
  rw [Nat.min_eq_left hk]
  rfl
theorem intL_take (xs : List Int) (k : Nat) : (intL xs).take k = intL (xs.take k) := (List.map_take ..).symm
theorem bi_lenL {a : Nat} {xs : List Int} {h : Hh} (e : h[a]? = some (intL xs)) : builtin .len [.ptr a] h = .ok (.int xs.length) h := by
  rw [bi_len (x := .ptr a) e, intL_len]
theorem r_ltrim (n : Nat) (a : Nat) (xs : List Int) (h : Hh) (ea : h[a]? = some (intL xs)) (hx : xs.length < 1000000) :
    callF P (n + 30) 28 [.ptr a] h = .ok (.tup (intL (trim xs))) h := by
  rw [callF_at P fs28 rfl]
  have w := wh28 a xs h ea hx
  unfold t28 w28 at w
  simp [b28, bi_lenL ea]
  rw [ev_wh, w]
  simp
  rw [slice_toL ea (k := (trim xs).length) (by simpa using trim_length xs), intL_take, take_trim, newL0]
  simp [bi_tup0, h_take]
theorem r_lplus (n : Nat) (p c : Int) (hp : 0 < p) (hc : c.natAbs < 2 ^ 64) (xs ys : List Int) (hx : xs.length ≤ 1000) (hy : ys.length ≤ 1000) (h : Hh) :
    callF P (n + 60) 29 [.int p, .tup (intL xs), .tup (intL ys), .int c] h = .ok (.tup (intL (addP p c xs ys))) h := by
  rw [callF_at P fs29 rfl]
  obtain ⟨m, em⟩ : ∃ m, m = max xs.length ys.length := ⟨_, rfl⟩
  have z1 := sub_cast (a := xs.length) (m := m) (by omega)
  have z2 := sub_cast (a := ys.length) (m := m) (by omega)
  have l1 := pad_len (n := m) (xs := xs) (by omega)
  have l2 := pad_len (n := m) (xs := ys) (by omega)
  have r1 (j : Nat) (l : Hh) (e : l[j]? = some [.int 0]) : binop .mul (.ptr (h.length + j)) (.int ((m - xs.length : Nat) : Int)) (h ++ l) = newL (h ++ l) (intL (List.replicate (m - xs.length) 0)) := rep1L 0 (get_in h l j _ e) (by omega)
  have r2 (j : Nat) (l : Hh) (e : l[j]? = some [.int 0]) : binop .mul (.ptr (h.length + j)) (.int ((m - ys.length : Nat) : Int)) (h ++ l) = newL (h ++ l) (intL (List.replicate (m - ys.length) 0)) := rep1L 0 (get_in h l j _ e) (by omega)
  have a1 (j : Nat) (l : Hh) (e : l[0]? = some (intL xs)) (e2 : l[j]? = some (intL (List.replicate (m - xs.length) 0))) : binop .add (.ptr h.length) (.ptr (h.length + j)) (h ++ l) = newL (h ++ l) (intL (padL m xs)) := by
    have g : (h ++ l)[h.length]? = some (intL xs) := by rw [h_get0, e]
    rw [bin_addL g (get_in h l j _ e2) (by rw [intL_len, intL_len, List.length_replicate]; omega), pad_ap]
  have a2 (i j : Nat) (l : Hh) (e : l[i]? = some (intL ys)) (e2 : l[j]? = some (intL (List.replicate (m - ys.length) 0))) : binop .add (.ptr (h.length + i)) (.ptr (h.length + j)) (h ++ l) = newL (h ++ l) (intL (padL m ys)) := by
    rw [bin_addL (get_in h l i _ e) (get_in h l j _ e2) (by rw [intL_len, intL_len, List.length_replicate]; omega), pad_ap]
  obtain ⟨H, eH⟩ : ∃ H : Hh, H = h ++ [intL xs, [.int 0], intL (List.replicate (m - xs.length) 0), intL (padL m xs), intL ys, [.int 0], intL (List.replicate (m - ys.length) 0), intL (padL m ys)] := ⟨_, rfl⟩
  have g0 : H[h.length + 3]? = some (intL (padL m xs)) := by rw [eH, h_get]; rfl
  have g1 : H[h.length + 7]? = some (intL (padL m ys)) := by rw [eH, h_get]; rfl
  have lc : ∀ k, loopC (.zp (.ptr (h.length + 3)) (.ptr (h.length + 7))) (lcT P (k + 20) (.gt (.gcons (.gv 7) (.gcons (.gv 8) .gnil))) (.cst (.bl true)) (.bin .mod (.bin .add (.var 7) (.bin .mul (.var 3) (.var 8))) (.var 0)) [7, 8] [.int p, .tup (intL xs), .tup (intL ys), .int c, .int (m : Int), .ptr (h.length + 3), .ptr (h.length + 7), .una, .una]) turns 0 [] H = .oks (intL (((padL m xs).zip (padL m ys)).map fun q => (q.1 + c * q.2) % p)) H := fun m =>
    lc_zip _ _ (fun a b => (a + c * b) % p) g0 g1 (by rw [l1, l2]) (by omega) fun a b _ _ => by
      rw [lcT_eq]
      simp [wipeD, binop_mul (mulOk_l hc), binop_mod (posI_of hp)]
  have zk := zpK_of (x := .ptr (h.length + 3)) (y := .ptr (h.length + 7)) g0 g1
  rw [eH] at lc zk
  simp [b29, max_cast em, z1, z2, newL0, newL1, r1, r2, a1, a2, zk, lc]
  rw [r_ltrim _ _ _ _ (by rw [h_get]; rfl) (by simp [l1, l2]; omega)]
  simp [h_take]
  rw [← addP_of hp (n := m) (by omega) (by omega) rfl]
  rw [trim_nf (p := p)]
  intro x hx
  obtain ⟨q, _, rfl⟩ := List.mem_map.mp hx
  exact ⟨Int.emod_nonneg _ (by omega), Int.emod_lt_of_pos _ hp⟩
end K4
-- K4f
namespace K4
open PySem Ev Ev.Rx Pm
theorem augX_at {a j : Nat} {f : List Int} {h : Hh} (e : h[a]? = some (intL f)) (hj : j < f.length) (σ : Sg) (v : Int) : augXK (.ptr a) (.int (j : Int)) σ (.int v) h = .nx σ (h.set a (intL (f.set j v))) := by
  have : setAt (.ptr a) (.int (j : Int)) (.int v) h = some (h.set a (intL (f.set j v))) := by
    show (match h[a]? with | some ds => (match ixN ds.length (j : Int) with | some j => some (h.set a (ds.set j (.int v))) | none => none) | none => none) = _
    rw [e]
    dsimp only
    rw [intL_len, ixN_nat hj]
    dsimp only
    rw [intL_set]
  show (match setAt (.ptr a) (.int (j : Int)) (.int v) h with | some h6 => R.nx σ h6 | none => .no) = _
  rw [this]
theorem set_Q {Q : Int → Prop} {f : List Int} (q : ∀ z ∈ f, Q z) {v : Int} (qv : Q v) (j : Nat) : ∀ z ∈ f.set j v, Q z := fun z hz => by
  rcases List.mem_or_eq_of_mem_set hz with h | h
  · exact q z h
  · rw [h]; exact qv
/-- a row of a product -/
theorem conv_in {p x : Int} {i L : Nat} {Q : Int → Prop} {ys : List Int} {o : D} {F : D → Sg → Hh → R} {S : D → D → Sg} {H : List Int → Hh} (eo : ∀ f, itemsOf (H f) o = some (intL ys)) (hL : i + ys.length ≤ L) (hy : ys.length < 1000000)
    (step : ∀ (f : List Int) (j : Nat) (y : Int) (c d : D), ys[j]? = some y → i + j < L → f.length = L → (∀ z ∈ f, Q z) →
      ∃ v, F (.tup [.int (j : Int), .int y]) (S c d) (H f) = .nx (S (.int (j : Int)) (.int y)) (H (f.set (i + j) v)) ∧ p ∣ v - (co f (i + j) + x * y) ∧ Q v)
    (f0 : List Int) (l0 : f0.length = L) (q0 : ∀ z ∈ f0, Q z) (c d : D) :
    ∃ f c' d', loopF (.en o) F turns 0 (S c d) (H f0) = .nx (S c' d') (H f) ∧ f.length = L ∧ (∀ z ∈ f, Q z) ∧ Eqm p (co f) (fun k => co f0 k + x * shN i (co (ys.take ys.length)) k) := by
  obtain ⟨σ', h', e, f, c', d', e1, e2, e3, e4, e5⟩ := loopF_inv (s := .en o) (f := F)
    (fun j σ hh => ∃ f c d, σ = S c d ∧ hh = H f ∧ f.length = L ∧ (∀ z ∈ f, Q z) ∧ Eqm p (co f) (fun k => co f0 k + x * shN i (co (ys.take j)) k)) ys.length
    (fun j σ hh hj ⟨f, c, d, e1, e2, e3, e4, e5⟩ => by
      subst e1 e2
      have gy := co_get hj
      obtain ⟨v, s1, s2, s3⟩ := step f j (co ys j) c d gy (by omega) e3 e4
      exact ⟨_, _, _, src_en (eo f) j gy, .inl s1, f.set (i + j) v, _, _, rfl, rfl, by rw [List.length_set, e3], set_Q e4 s3 _, row_step gy (by omega) e5 s2⟩)
    (fun σ hh ⟨f, c, d, e1, e2, _⟩ => by
      subst e1 e2
      exact src_en_end (eo f)) turns 0 (S c d) (H f0) (by unfold turns; omega) (Nat.zero_le _)
    ⟨f0, c, d, rfl, rfl, l0, q0, Eqm.of _ _ fun k => by
      have : shN i (co (ys.take 0)) k = 0 := by unfold shN; by_cases h : k < i <;> simp [h, co]
      rw [this]; omega⟩
  exact ⟨f, c', d', by rw [e, e1, e2], e3, e4, e5⟩
/-- a product -/
theorem conv_out {p : Int} {L : Nat} {Q : Int → Prop} {xs ys : List Int} {o : D} {F : D → Sg → Hh → R} {S : D → D → D → D → Sg} {H : List Int → Hh} (eo : ∀ f, itemsOf (H f) o = some (intL xs)) (hL : xs.length + ys.length ≤ L) (hx : xs.length < 1000000)
    (step : ∀ (f : List Int) (i : Nat) (x : Int) (a b c d : D), xs[i]? = some x → i < xs.length → f.length = L → (∀ z ∈ f, Q z) →
      ∃ f' c' d', F (.tup [.int (i : Int), .int x]) (S a b c d) (H f) = .nx (S (.int (i : Int)) (.int x) c' d') (H f') ∧ f'.length = L ∧ (∀ z ∈ f', Q z) ∧ Eqm p (co f') (fun k => co f k + x * shN i (co (ys.take ys.length)) k))
    (f0 : List Int) (l0 : f0.length = L) (q0 : ∀ z ∈ f0, Q z) (z0 : ∀ k, co f0 k = 0) (a b c d : D) :
    ∃ f a' b' c' d', loopF (.en o) F turns 0 (S a b c d) (H f0) = .nx (S a' b' c' d') (H f) ∧ f.length = L ∧ (∀ z ∈ f, Q z) ∧ Eqm p (co f) (mulF (xs.take xs.length) (co ys)) := by
  obtain ⟨σ', h', e, f, a', b', c', d', e1, e2, e3, e4, e5⟩ := loopF_inv (s := .en o) (f := F)
    (fun i σ hh => ∃ f a b c d, σ = S a b c d ∧ hh = H f ∧ f.length = L ∧ (∀ z ∈ f, Q z) ∧ Eqm p (co f) (mulF (xs.take i) (co ys))) xs.length
    (fun i σ hh hi ⟨f, a, b, c, d, e1, e2, e3, e4, e5⟩ => by
      subst e1 e2
      have gx := co_get hi
      obtain ⟨f', c', d', s1, s2, s3, s4⟩ := step f i (co xs i) a b c d gx hi e3 e4
      exact ⟨_, _, _, src_en (eo f) i gx, .inl s1, f', _, _, c', d', rfl, rfl, s2, s3, row_end gx e5 s4⟩)
    (fun σ hh ⟨f, a, b, c, d, e1, e2, _⟩ => by
      subst e1 e2
      exact src_en_end (eo f)) turns 0 (S a b c d) (H f0) (by unfold turns; omega) (Nat.zero_le _)
    ⟨f0, a, b, c, d, rfl, rfl, l0, q0, Eqm.of _ _ fun k => by rw [z0 k]; simp [mulF]⟩
  exact ⟨f, a', b', c', d', by rw [e, e1, e2], e3, e4, e5⟩
theorem add_cast (i j : Nat) : (i : Int) + (j : Int) = ((i + j : Nat) : Int) := by omega
theorem r_times (n : Nat) (p : Int) (hp : 0 < p) (hp2 : p ≤ 1000) (xs ys : List Int) (hx : xs.length ≤ 1000) (hy : ys.length ≤ 1000) (rx : ∀ x ∈ xs, x.natAbs < 2 ^ 64) (h : Hh) :
    callF P (n + 60) 11 [.int p, .tup (intL xs), .tup (intL ys)] h = .ok (.tup (intL (mulP p xs ys))) h := by
  rw [callF_at P fs11 rfl]
  have r1 (l : Hh) (e : l[0]? = some [.int 0]) : binop .mul (.ptr h.length) (.int ((xs.length : Int) + (ys.length : Int))) (h ++ l) = newL (h ++ l) (intL (List.replicate (xs.length + ys.length) 0)) := by
    rw [add_cast]
    exact rep1L 0 (by rw [h_get0, e]) (by omega)
  have lp := fun m => conv_out (p := p) (L := xs.length + ys.length) (Q := fun _ => True) (xs := xs) (ys := ys) (o := .tup (intL xs))
    (F := forT P (m + 30) (.gt (.gcons (.gv 4) (.gcons (.gv 5) .gnil))) (.sCons (.sFor (.gt (.gcons (.gv 6) (.gcons (.gv 7) .gnil))) (.iE (.var 2)) (.sCons (.sAugX (.var 3) (.bin .add (.var 4) (.var 6)) .add (.bin .mul (.var 5) (.var 7))) .sNil)) .sNil))
    (S := fun a b c d => [.int p, .tup (intL xs), .tup (intL ys), .ptr (h.length + 1), a, b, c, d]) (H := fun f => h ++ [[.int 0], intL f])
    (fun f => rfl) (Nat.le_refl _) (by omega)
    (fun f i x a b c d gx hi lf _ => by
      have nx : x.natAbs < 2 ^ 64 := rx x (List.mem_of_getElem? gx)
      obtain ⟨f', c', d', q1, q2, q3, q4⟩ := conv_in (p := p) (x := x) (i := i) (L := xs.length + ys.length) (Q := fun _ => True) (ys := ys) (o := .tup (intL ys))
        (F := forT P (m + 28) (.gt (.gcons (.gv 6) (.gcons (.gv 7) .gnil))) (.sCons (.sAugX (.var 3) (.bin .add (.var 4) (.var 6)) .add (.bin .mul (.var 5) (.var 7))) .sNil))
        (S := fun c d => [.int p, .tup (intL xs), .tup (intL ys), .ptr (h.length + 1), .int (i : Int), .int x, c, d]) (H := fun f => h ++ [[.int 0], intL f])
        (fun f => rfl) (by omega) (by omega)
        (fun f j y c d gy hj lf _ => by
          have g0 : (h ++ [[.int 0], intL f])[h.length + 1]? = some (intL f) := by rw [h_get]; rfl
          refine ⟨co f (i + j) + x * y, ?_, by rw [Int.sub_self]; exact Int.dvd_zero p, trivial⟩
          rw [forT_eq]
          simp
          rw [add_cast, index_nat (x := .ptr (h.length + 1)) g0 (co_get (by omega))]
          simp [binop_mul (mulOk_l nx)]
          rw [add_cast, augX_at g0 (by omega), h_set]
          rfl) f lf (fun _ _ => trivial) c d
      refine ⟨f', c', d', ?_, q2, q3, q4⟩
      rw [forT_eq]
      simp
      rw [enK_of (x := .tup (intL ys)) rfl]
      simp
      rw [q1]
      simp) (List.replicate (xs.length + ys.length) 0) (by simp) (fun _ _ => trivial) (co_zeros _) .una .una .una .una
  obtain ⟨f, lp⟩ := pick1 lp
  obtain ⟨a, lp⟩ := pick1 lp
  obtain ⟨b, lp⟩ := pick1 lp
  obtain ⟨c, lp⟩ := pick1 lp
  obtain ⟨d, lp⟩ := pick1 lp
  simp [b11, newL0, newL1]
  rw [r1 _ rfl]
  simp [newL1]
  rw [enK_of (x := .tup (intL xs)) rfl]
  simp
  rw [(lp _).1]
  simp
  rw [r_trimmed _ p hp _ _ _ rfl (show itemsOf (h ++ [[.int 0], intL (f _)]) (.ptr (h.length + 1)) = some (intL (f _)) from by rw [items_ptr, h_get]; rfl) (by rw [(lp _).2.1]; omega)]
  simp [h_take]
  rw [mulP_of hp (lp _).2.2.2]
theorem r_ltimes (n : Nat) (p : Int) (hp : 0 < p) (hp2 : p ≤ 1000) (xs ys : List Int) (hx : xs.length ≤ 1000) (hy : ys.length ≤ 1000) (rx : ∀ x ∈ xs, x.natAbs < 2 ^ 64) (h : Hh) :
    callF P (n + 60) 30 [.int p, .tup (intL xs), .tup (intL ys)] h = .ok (.tup (intL (mulP p xs ys))) h := by
  rw [callF_at P fs30 rfl]
  have r1 (l : Hh) (e : l[0]? = some [.int 0]) : binop .mul (.ptr h.length) (.int ((xs.length : Int) + (ys.length : Int))) (h ++ l) = newL (h ++ l) (intL (List.replicate (xs.length + ys.length) 0)) := by
    rw [add_cast]
    exact rep1L 0 (by rw [h_get0, e]) (by omega)
  have lp := fun m => conv_out (p := p) (L := xs.length + ys.length) (Q := fun z => 0 ≤ z ∧ z < p) (xs := xs) (ys := ys) (o := .tup (intL xs))
    (F := forT P (m + 30) (.gt (.gcons (.gv 4) (.gcons (.gv 5) .gnil))) (.sCons (.sFor (.gt (.gcons (.gv 6) (.gcons (.gv 7) .gnil))) (.iE (.var 2)) (.sCons (.sAsg (.gx (.var 3) (.bin .add (.var 4) (.var 6))) (.bin .mod (.bin .add (.ix (.var 3) (.bin .add (.var 4) (.var 6))) (.bin .mul (.var 5) (.var 7))) (.var 0))) .sNil)) .sNil))
    (S := fun a b c d => [.int p, .tup (intL xs), .tup (intL ys), .ptr (h.length + 1), a, b, c, d]) (H := fun f => h ++ [[.int 0], intL f])
    (fun f => rfl) (Nat.le_refl _) (by omega)
    (fun f i x a b c d gx hi lf qf => by
      have nx : x.natAbs < 2 ^ 64 := rx x (List.mem_of_getElem? gx)
      obtain ⟨f', c', d', q1, q2, q3, q4⟩ := conv_in (p := p) (x := x) (i := i) (L := xs.length + ys.length) (Q := fun z => 0 ≤ z ∧ z < p) (ys := ys) (o := .tup (intL ys))
        (F := forT P (m + 28) (.gt (.gcons (.gv 6) (.gcons (.gv 7) .gnil))) (.sCons (.sAsg (.gx (.var 3) (.bin .add (.var 4) (.var 6))) (.bin .mod (.bin .add (.ix (.var 3) (.bin .add (.var 4) (.var 6))) (.bin .mul (.var 5) (.var 7))) (.var 0))) .sNil))
        (S := fun c d => [.int p, .tup (intL xs), .tup (intL ys), .ptr (h.length + 1), .int (i : Int), .int x, c, d]) (H := fun f => h ++ [[.int 0], intL f])
        (fun f => rfl) (by omega) (by omega)
        (fun f j y c d gy hj lf _ => by
          have g0 : (h ++ [[.int 0], intL f])[h.length + 1]? = some (intL f) := by rw [h_get]; rfl
          refine ⟨(co f (i + j) + x * y) % p, ?_, dvd_mod p _, Int.emod_nonneg _ (by omega), Int.emod_lt_of_pos _ hp⟩
          rw [forT_eq]
          simp
          rw [add_cast, index_nat (x := .ptr (h.length + 1)) g0 (co_get (by omega))]
          simp [binop_mul (mulOk_l nx), binop_mod (posI_of hp)]
          rw [add_cast, augX_at g0 (by omega), h_set]
          rfl) f lf qf c d
      refine ⟨f', c', d', ?_, q2, q3, q4⟩
      rw [forT_eq]
      simp
      rw [enK_of (x := .tup (intL ys)) rfl]
      simp
      rw [q1]
      simp) (List.replicate (xs.length + ys.length) 0) (by simp) (fun z hz => by rw [List.eq_of_mem_replicate hz]; omega) (co_zeros _) .una .una .una .una
  obtain ⟨f, lp⟩ := pick1 lp
  obtain ⟨a, lp⟩ := pick1 lp
  obtain ⟨b, lp⟩ := pick1 lp
  obtain ⟨c, lp⟩ := pick1 lp
  obtain ⟨d, lp⟩ := pick1 lp
  simp [b30, newL0, newL1]
  rw [r1 _ rfl]
  simp [newL1]
  rw [enK_of (x := .tup (intL xs)) rfl]
  simp
  rw [(lp _).1]
  simp
  rw [r_ltrim _ _ (f _) _ (by rw [h_get]; rfl) (by rw [(lp _).2.1]; omega), trim_nf (lp _).2.2.1, mulP_of hp (lp _).2.2.2]
  simp [h_take]
end K4
-- K4g
namespace K4
open PySem Ev Ev.Rx Pm
theorem resid {p : Int} (hp : p ∈ primes) {x : Int} (h1 : 0 < x) (h2 : x < p) {Q : Int → Int → Prop}
    (q : Q 2 1 ∧ Q 3 1 ∧ Q 3 2 ∧ Q 5 1 ∧ Q 5 2 ∧ Q 5 3 ∧ Q 5 4 ∧ Q 7 1 ∧ Q 7 2 ∧ Q 7 3 ∧ Q 7 4 ∧ Q 7 5 ∧ Q 7 6) : Q p x := by
  obtain ⟨q1, q2, q3, q4, q5, q6, q7, q8, q9, q10, q11, q12, q13⟩ := q
  have e : p = 2 ∨ p = 3 ∨ p = 5 ∨ p = 7 := by simpa [primes] using hp
  rcases e with rfl | rfl | rfl | rfl
  · have : x = 1 := by omega
    subst this; assumption
  · have : x = 1 ∨ x = 2 := by omega
    rcases this with rfl | rfl <;> assumption
  · have : x = 1 ∨ x = 2 ∨ x = 3 ∨ x = 4 := by omega
    rcases this with rfl | rfl | rfl | rfl <;> assumption
  · have : x = 1 ∨ x = 2 ∨ x = 3 ∨ x = 4 ∨ x = 5 ∨ x = 6 := by omega
    rcases this with rfl | rfl | rfl | rfl | rfl | rfl <;> assumption
theorem gdx_inv {p : Int} (hp : p ∈ primes) {x : Int} (h1 : 0 < x) (h2 : x < p) (h : Hh) : ∃ d, gdxK P 0 (.int p) h = .ok d h ∧ index d (.int x) h = .ok (.int (inv p x)) h :=
  resid hp h1 h2 (Q := fun p x => ∃ d, gdxK P 0 (.int p) h = .ok d h ∧ index d (.int x) h = .ok (.int (inv p x)) h)
    ⟨⟨_, rfl, rfl⟩, ⟨_, rfl, rfl⟩, ⟨_, rfl, rfl⟩, ⟨_, rfl, rfl⟩, ⟨_, rfl, rfl⟩, ⟨_, rfl, rfl⟩, ⟨_, rfl, rfl⟩, ⟨_, rfl, rfl⟩, ⟨_, rfl, rfl⟩, ⟨_, rfl, rfl⟩, ⟨_, rfl, rfl⟩, ⟨_, rfl, rfl⟩, ⟨_, rfl, rfl⟩⟩
theorem r_undone (n : Nat) (p : Int) (hp : p ∈ primes) (x : Int) (h1 : 0 < x) (h2 : x < p) (h : Hh) : callF P (n + 20) 4 [.int p, .int x] h = .ok (.int (inv p x)) h := by
  rw [callF_at P fs4 rfl]
  obtain ⟨d, e1, e2⟩ := gdx_inv hp h1 h2 h
  simp [b4, e1, e2, h_take0]
def rgL (lo : Int) (n : Nat) : List Int := (List.range n).map fun i : Nat => lo + (i : Int)
theorem rgL_len (lo : Int) (n : Nat) : (rgL lo n).length = n := by simp [rgL]
theorem src_rg (h : Hh) (lo : Int) (n i : Nat) (hi : i ≤ n) : srcAt h (.rg lo 1 n) i = some (intL (rgL lo n))[i]? := by
  show (match Nat.blt i n with | true => some (some (D.int (lo + (i : Int) * 1))) | false => some none) = _
  rw [intL_get]
  unfold rgL
  rcases Nat.lt_or_ge i n with h1 | h1
  · rw [Nat.blt_eq.mpr h1, List.getElem?_map, List.getElem?_range h1]
    simp
  · have e : Nat.blt i n = false := by
      cases q : Nat.blt i n with
      | false => rfl
      | true => have := Nat.blt_eq.mp q; omega
    rw [e, List.getElem?_eq_none (by simp; omega)]
    rfl
def gInv (p x : Int) (d : D) : Option D := match d with
  | .int i => if i * x % p = 1 then some (.int i) else none
  | _ => none
theorem inv_list {p : Int} (hp : p ∈ primes) {x : Int} (h1 : 0 < x) (h2 : x < p) : (intL (rgL 1 (p - 1).toNat)).filterMap (gInv p x) = [.int (inv p x)] :=
  resid hp h1 h2 (Q := fun p x => (intL (rgL 1 (p - 1).toNat)).filterMap (gInv p x) = [.int (inv p x)])
    ⟨rfl, rfl, rfl, rfl, rfl, rfl, rfl, rfl, rfl, rfl, rfl, rfl, rfl⟩
theorem rng2 (i j : Int) (hi : i.natAbs < 2 ^ 60) (hj : j.natAbs < 2 ^ 60) (h : Hh) : rngK [.int i, .int j] h = .osr (.rg i 1 (j - i).toNat) h := by
  show (match Nat.blt i.natAbs (2 ^ 60) && Nat.blt j.natAbs (2 ^ 60) with | true => R.osr (.rg i 1 (j - i).toNat) h | false => .no) = _
  rw [Nat.blt_eq.mpr hi, Nat.blt_eq.mpr hj]
  rfl
theorem rng1 (j : Int) (hj : j.natAbs < 2 ^ 60) (h : Hh) : rngK [.int j] h = .osr (.rg 0 1 j.toNat) h := by
  show (match Nat.blt j.natAbs (2 ^ 60) with | true => R.osr (.rg 0 1 j.toNat) h | false => .no) = _
  rw [Nat.blt_eq.mpr hj]
theorem r_lundone (n : Nat) (p : Int) (hp : p ∈ primes) (x : Int) (h1 : 0 < x) (h2 : x < p) (h : Hh) : callF P (n + 30) 31 [.int p, .int x] h = .ok (.int (inv p x)) h := by
  rw [callF_at P fs31 rfl]
  have pp := pr_pos hp
  have lc : ∀ m, loopC (.rg 1 1 (p - 1).toNat) (lcT P (m + 20) (.gv 2) (.cmp .eq (.bin .mod (.bin .mul (.var 2) (.var 1)) (.var 0)) (.cst (.int 1))) (.var 2) [2] [.int p, .int x, .una]) turns 0 [] h = .oks [.int (inv p x)] h := fun m => by
    rw [loopC_fm (gInv p x) (intL (rgL 1 (p - 1).toNat)) (fun i hi => src_rg h 1 _ i (by simpa [rgL_len] using hi)) (fun d hd => by
      obtain ⟨i, hi, rfl⟩ := List.mem_map.mp hd
      by_cases c : i * x % p = 1
      · refine .inl ⟨.int i, by simp [gInv, c], ?_⟩
        rw [lcT_eq]
        simp [wipeD, binop_mul (i := i) (j := x) (mulOk_r (by omega)), binop_mod (posI_of (show 0 < p by omega)), pyEq_int, c]
      · refine .inr ⟨by simp [gInv, c], [.int p, .int x, .int i], ?_⟩
        rw [lcT_eq]
        simp [wipeD, binop_mul (i := i) (j := x) (mulOk_r (by omega)), binop_mod (posI_of (show 0 < p by omega)), pyEq_int, c]) (by rw [intL_len, rgL_len]; omega), inv_list hp h1 h2]
  have g0 : (h ++ [[.int (inv p x)]])[h.length]? = some (intL [inv p x]) := by rw [h_get0]; rfl
  have ix : index (.ptr h.length) (.int 0) (h ++ [[.int (inv p x)]]) = .ok (.int (inv p x)) (h ++ [[.int (inv p x)]]) := index_nat (j := 0) (x := .ptr h.length) g0 rfl
  simp [b31]
  rw [rng2 1 p (by omega) (by omega)]
  revert lc
  generalize (p - 1).toNat = N
  intro lc
  simp
  rw [lc]
  simp [newL0, ix, h_take]
end K4
-- K4h
namespace K4
open PySem Ev Ev.Rx Pm
theorem rng3 (i j : Int) (hi : i.natAbs < 2 ^ 60) (hj : j.natAbs < 2 ^ 60) (h : Hh) : rngK [.int i, .int j, .int (-1)] h = .osr (.rg i (-1) (i - j).toNat) h := by
  show (match Nat.blt i.natAbs (2 ^ 60) && Nat.blt j.natAbs (2 ^ 60) && decide ((-1 : Int) = -1) with | true => R.osr (.rg i (-1) (i - j).toNat) h | false => .no) = _
  rw [Nat.blt_eq.mpr hi, Nat.blt_eq.mpr hj]
  rfl
theorem src_dn {h : Hh} {lo : Int} {n i : Nat} (hi : i < n) : srcAt h (.rg lo (-1) n) i = some (some (.int (lo + (i : Int) * (-1)))) := by
  show (match Nat.blt i n with | true => some (some (D.int (lo + (i : Int) * (-1)))) | false => some none) = _
  rw [Nat.blt_eq.mpr hi]
theorem src_rend {h : Hh} {lo c : Int} {n : Nat} : srcAt h (.rg lo c n) n = some none := by
  show (match Nat.blt n n with | true => some (some (D.int (lo + (n : Int) * c))) | false => some none) = _
  have e : Nat.blt n n = false := by
    cases q : Nat.blt n n with
    | false => rfl
    | true => have := Nat.blt_eq.mp q; omega
  rw [e]
def i12 : I := .sCons (.sAugX (.var 5) (.bin .add (.var 4) (.var 8)) .sub (.bin .mul (.ix (.var 6) (.var 4)) (.var 9))) .sNil
def o12 : I := .sCons (.sAsg (.gx (.var 6) (.var 4)) (.bin .mod (.bin .mul (.ix (.var 5) (.bin .sub (.bin .add (.var 4) (.var 7)) (.cst (.int 1)))) (.var 3)) (.var 0))) (.sCons (.sFor (.gt (.gcons (.gv 8) (.gcons (.gv 9) .gnil))) (.iE (.var 2)) i12) .sNil)
def s12 (p u : Int) (a b : List Int) (h : Hh) (x c d : D) : Sg := [.int p, .tup (intL a), .tup (intL b), .int u, x, .ptr h.length, .ptr (h.length + 2), .int (b.length : Int), c, d]
def h12 (h : Hh) (q r : List Int) : Hh := h ++ [intL r, [.int 0], intL q]
theorem g12q (h : Hh) (q r : List Int) : (h12 h q r)[h.length + 2]? = some (intL q) := by unfold h12; rw [h_get]; rfl
theorem g12r (h : Hh) (q r : List Int) : (h12 h q r)[h.length]? = some (intL r) := by unfold h12; rw [h_get0]; rfl
theorem row12 (m : Nat) (p u : Int) (a b : List Int) (h : Hh) (q r : List Int) (n : Nat) (hn : n < q.length) (hr : n + b.length ≤ r.length) (hb : b.length < 1000000) (cs : (co q n).natAbs < 2 ^ 64) (c d : D) :
    ∃ r' c' d', loopF (.en (.tup (intL b))) (forT P (m + 20) (.gt (.gcons (.gv 8) (.gcons (.gv 9) .gnil))) i12) turns 0 (s12 p u a b h (.int (n : Int)) c d) (h12 h q r) = .nx (s12 p u a b h (.int (n : Int)) c' d') (h12 h q r') ∧ r'.length = r.length ∧ Eqm p (co r') (fun k => co r k - co q n * shN n (co b) k) := by
  obtain ⟨r', c', d', q1, q2, _, q4⟩ := conv_in (p := p) (x := -(co q n)) (i := n) (L := r.length) (Q := fun _ => True) (ys := b) (o := .tup (intL b))
    (F := forT P (m + 20) (.gt (.gcons (.gv 8) (.gcons (.gv 9) .gnil))) i12)
    (S := fun c d => s12 p u a b h (.int (n : Int)) c d) (H := fun r => h12 h q r) (fun f => rfl) hr hb
    (fun f j y c d gy hj lf _ => by
      have g0 := g12r h q f
      refine ⟨co f (n + j) - co q n * y, ?_, ⟨0, by grind⟩, trivial⟩
      rw [forT_eq]
      simp [s12, i12]
      rw [add_cast, index_nat (x := .ptr h.length) g0 (co_get (by omega))]
      simp
      rw [index_nat (x := .ptr (h.length + 2)) (g12q h q f) (co_get hn)]
      simp [binop_mul (mulOk_l cs)]
      rw [add_cast, augX_at g0 (by omega)]
      simp [h12, h_set0]) r rfl (fun _ _ => trivial) c d
  exact ⟨r', c', d', q1, q2, fun k => by
    obtain ⟨v, e⟩ := q4 k
    rw [List.take_length] at e
    exact ⟨v, by grind⟩⟩
theorem run12 (m : Nat) (p : Int) (hp : p ∈ primes) (u : Int) (hu : 0 ≤ u ∧ u < p) (a b : List Int) (lb : 0 < b.length) (ha : a.length < 1000000) (hb : b.length < 1000000) (hub : p ∣ co b (b.length - 1) * u - 1) (h : Hh) :
    ∃ q r x c d, loopF (.rg ((a.length : Int) - (b.length : Int)) (-1) (a.length + 1 - b.length)) (forT P (m + 40) (.gv 4) o12) turns 0 (s12 p u a b h .una .una .una) (h12 h (List.replicate a.length 0) a) = .nx (s12 p u a b h x c d) (h12 h q r) ∧ DI p a b 0 q r ∧ q.length = a.length ∧ r.length = a.length := by
  have p0 : 0 < p := by have := pr_pos hp; omega
  have p7 := (pr_pos hp).2
  obtain ⟨σ', h', e, q, r, x, c, d, e1, e2, e3, e4, e5⟩ := loopF_inv (s := .rg ((a.length : Int) - (b.length : Int)) (-1) (a.length + 1 - b.length)) (f := forT P (m + 40) (.gv 4) o12)
    (fun t σ hh => ∃ q r x c d, σ = s12 p u a b h x c d ∧ hh = h12 h q r ∧ DI p a b (a.length + 1 - b.length - t) q r ∧ q.length = a.length ∧ r.length = a.length) (a.length + 1 - b.length)
    (fun t σ hh ht ⟨q, r, x, c, d, e1, e2, e3, e4, e5⟩ => by
      subst e1 e2
      obtain ⟨n, en⟩ : ∃ n, n = a.length + 1 - b.length - (t + 1) := ⟨_, rfl⟩
      have en1 : a.length + 1 - b.length - t = n + 1 := by omega
      have en2 : (a.length : Int) - (b.length : Int) + (t : Int) * (-1) = (n : Int) := by omega
      have en3 : (n : Int) + (b.length : Int) - 1 = ((n + b.length - 1 : Nat) : Int) := by omega
      rw [en1] at e3
      rw [← en]
      have gr := index_nat (x := .ptr h.length) (g12r h q r) (co_get (xs := r) (j := n + b.length - 1) (by omega))
      obtain ⟨v, ev⟩ : ∃ v, v = co r (n + b.length - 1) * u % p := ⟨_, rfl⟩
      have v1 : 0 ≤ v := by rw [ev]; exact Int.emod_nonneg _ (by omega)
      have v2 : v < p := by rw [ev]; exact Int.emod_lt_of_pos _ p0
      have cq : co (q.set n v) n = v := by rw [co_set (by omega)]; simp
      obtain ⟨r', c', d', w1, w2, w3⟩ := row12 (m + 17) p u a b h (q.set n v) r n (by rw [List.length_set]; omega) (by omega) hb (by rw [cq]; omega) c d
      rw [cq] at w3
      have st := e3.step lb (by omega) (by rw [ev]; exact dvd_mod p _) hub w3
      refine ⟨_, _, _, src_dn ht, .inl ?_, q.set n v, r', .int (n : Int), c', d', rfl, rfl, st, by rw [List.length_set, e4], by rw [w2, e5]⟩
      rw [en2]
      unfold s12 at w1 ⊢
      have ss : h12 h (q.set n v) r = (h12 h q r).set (h.length + 2) (intL (q.set n v)) := by unfold h12; rw [h_set]; rfl
      simp [o12, en3, gr, binop_mul (mulOk_r (show u.natAbs < 2 ^ 64 by omega)), binop_mod (posI_of p0), ← ev]
      rw [augX_at (g12q h q r) (by omega), ← ss]
      simp
      rw [enK_of (x := .tup (intL b)) rfl]
      simp
      rw [w1]
      simp)
    (fun σ hh ⟨q, r, x, c, d, e1, e2, _⟩ => src_rend) turns 0 (s12 p u a b h .una .una .una) (h12 h (List.replicate a.length 0) a) (by unfold turns; omega) (Nat.zero_le _)
    ⟨_, _, _, _, _, rfl, rfl, DI.start _ (by omega), by simp, rfl⟩
  exact ⟨q, r, x, c, d, by rw [e, e1, e2], by simpa using e3, e4, e5⟩
theorem last_of {xs : List Int} (h : xs ≠ []) : ∃ zs, xs = zs ++ [co xs (xs.length - 1)] := by
  rcases snoc_of xs with e | ⟨ys, y, e⟩
  · exact absurd e h
  · refine ⟨ys, ?_⟩
    have : co xs (xs.length - 1) = y := by rw [e]; simp [co]
    rw [this]
    exact e
theorem index_lastT {x : D} {xs : List Int} {h : Hh} (e : itemsOf h x = some (intL xs)) (ne : xs ≠ []) : index x (.int (-1)) h = .ok (.int (co xs (xs.length - 1))) h := by
  obtain ⟨zs, ez⟩ := last_of ne
  exact index_last (xs := zs) (by rw [e]; exact congrArg (fun l => some (intL l)) ez)
theorem r_div (n : Nat) (p : Int) (hp : p ∈ primes) (a b : List Int) (hb : Nf p b) (nb : b ≠ []) (la : a.length ≤ 1000) (lb : b.length ≤ 1000) (h : Hh) :
    callF P (n + 100) 12 [.int p, .tup (intL a), .tup (intL b)] h = .ok (.tup [.tup (intL (qr p a b).1), .tup (intL (qr p a b).2)]) h := by
  rw [callF_at P fs12 rfl]
  have pp := pr_pos hp
  have p0 : 0 < p := by omega
  have lb0 := List.length_pos_iff.mpr nb
  have l := lead_rg hp hb nb
  have i := inv_ok hp l.1 l.2
  obtain ⟨u, eu⟩ : ∃ u, u = inv p (co b (b.length - 1)) := ⟨_, rfl⟩
  rw [← eu] at i
  obtain ⟨q, lp⟩ := pick1 (fun m => run12 m p hp u (by omega) a b lb0 (by omega) (by omega) i.1 h)
  obtain ⟨r, lp⟩ := pick1 lp
  obtain ⟨x, lp⟩ := pick1 lp
  obtain ⟨c, lp⟩ := pick1 lp
  obtain ⟨d, lp⟩ := pick1 lp
  have r1 (l : Hh) (e : l[1]? = some [.int 0]) : binop .mul (.ptr (h.length + 1)) (.int (a.length : Int)) (h ++ l) = newL (h ++ l) (intL (List.replicate a.length 0)) :=
    rep1L 0 (get_in h l 1 _ e) (by omega)
  simp [b12, newL0, newL1]
  rw [r1 _ rfl]
  simp [newL1]
  rw [index_lastT (x := .tup (intL b)) rfl nb]
  simp
  rw [r_undone _ p hp _ l.1 l.2, ← eu]
  simp
  rw [rng3 _ _ (by omega) (by omega)]
  have ez : ((a.length : Int) - (b.length : Int) - -1).toNat = a.length + 1 - b.length := by omega
  rw [ez]
  have w := (lp (n + 56)).1
  unfold s12 h12 o12 i12 at w
  simp
  rw [w]
  have g0 := g12r h (q (n + 56)) (r (n + 56))
  have g2 := g12q h (q (n + 56)) (r (n + 56))
  unfold h12 at g0 g2
  simp
  rw [r_trimmed _ p p0 _ _ _ rfl (show itemsOf _ (.ptr (h.length + 2)) = _ from g2) (by rw [(lp _).2.2.1]; omega)]
  simp
  rw [r_trimmed _ p p0 _ _ _ rfl (show itemsOf _ (.ptr h.length) = _ from g0) (by rw [(lp _).2.2.2]; omega)]
  have dv := (lp (n + 56)).2.1.fin p0 lb0
  rw [qr_of (pr_of hp) hb nb dv]
  simp [tupK_of, mkT, h_take]
end K4
-- K4i
namespace K4
open PySem Ev Ev.Rx Pm
def t32 : I := .cmp .ge (.blt .len (.acons (.var 4) .anil)) (.blt .len (.acons (.var 2) .anil))
def w32 : I := .sCons (.sPar2 6 7 (.bin .sub (.blt .len (.acons (.var 4) .anil)) (.blt .len (.acons (.var 2) .anil))) (.bin .mod (.bin .mul (.ix (.var 4) (.neg (.cst (.int 1)))) (.var 3)) (.var 0))) (.sCons (.sAsg (.gx (.var 5) (.var 6)) (.var 7)) (.sCons (.sAsg (.gv 4) (.cal 29 (.acons (.var 0) (.acons (.var 4) (.acons (.bin .add (.bin .mul (.tup (.acons (.cst (.int 0)) .anil)) (.var 6)) (.blt .tuple (.acons (.var 2) .anil))) (.acons (.bin .sub (.cst (.int 0)) (.var 7)) .anil)))))) .sNil))
def s32 (p u : Int) (a b r : List Int) (h : Hh) (x y : D) : Sg := [.int p, .tup (intL a), .tup (intL b), .int u, .tup (intL r), .ptr (h.length + 1), x, y]
def h32 (h : Hh) (q : List Int) : Hh := h ++ [[.int 0], intL q]
theorem g32 (h : Hh) (q : List Int) : (h32 h q)[h.length + 1]? = some (intL q) := by unfold h32; rw [h_get]; rfl
theorem wh32 (m : Nat) (p : Int) (hp : p ∈ primes) (u : Int) (hu : 0 ≤ u ∧ u < p) (a b : List Int) (ha : Nf p a) (lb : 0 < b.length) (la : a.length ≤ 1000) (lb2 : b.length ≤ 1000) (hub : p ∣ co b (b.length - 1) * u - 1) (h : Hh) (Q : Nat) (hQ : a.length + 1 - b.length ≤ Q) :
    ∃ q r x y, c_wh P (m + 100) t32 w32 (s32 p u a b a h .una .una) (h32 h (List.replicate Q 0)) = .nx (s32 p u a b r h x y) (h32 h q) ∧ DI p a b 0 q r ∧ Nf p r ∧ q.length = Q ∧ (∀ z ∈ q, 0 ≤ z ∧ z < p) := by
  have p0 : 0 < p := by have := pr_pos hp; omega
  have p7 := (pr_pos hp).2
  obtain ⟨σ', h', e, q, r, x, y, e1, e2, e3, e4, e5, e6, e7⟩ := loopW_inv
    (t := fun σ1 h1 => ev P (m + 100) t32 σ1 h1) (f := fun σ1 h1 => ev P (m + 100) w32 σ1 h1)
    (fun k σ hh => ∃ q r x y, k = r.length ∧ σ = s32 p u a b r h x y ∧ hh = h32 h q ∧ DI p a b (r.length + 1 - b.length) q r ∧ Nf p r ∧ q.length = Q ∧ r.length ≤ a.length ∧ (∀ z ∈ q, 0 ≤ z ∧ z < p))
    (fun σ hh => ∃ q r x y, σ = s32 p u a b r h x y ∧ hh = h32 h q ∧ DI p a b 0 q r ∧ Nf p r ∧ q.length = Q ∧ r.length ≤ a.length ∧ (∀ z ∈ q, 0 ≤ z ∧ z < p))
    (fun k σ hh ⟨q, r, x, y, ek, e1, e2, e3, e4, e5, e6, e7⟩ => by
      subst e1 e2
      rcases Nat.lt_or_ge r.length b.length with hl | hl
      · refine ⟨false, h32 h q, ?_, fun _ => ⟨q, r, x, y, rfl, rfl, ?_, e4, e5, e6, e7⟩, (fun e => by cases e)⟩
        · simp [t32, s32]
          omega
        · have : r.length + 1 - b.length = 0 := by omega
          rwa [this] at e3
      · obtain ⟨n, en⟩ : ∃ n, n = r.length - b.length := ⟨_, rfl⟩
        have en1 : r.length + 1 - b.length = n + 1 := by omega
        have en2 : (r.length : Int) - (b.length : Int) = (n : Int) := by omega
        have en3 : r.length - 1 = n + b.length - 1 := by omega
        rw [en1] at e3
        have nr : r ≠ [] := fun e => by rw [e] at hl; have : b.length ≤ 0 := hl; omega
        obtain ⟨v, ev⟩ : ∃ v, v = co r (n + b.length - 1) * u % p := ⟨_, rfl⟩
        have v1 : 0 ≤ v := by rw [ev]; exact Int.emod_nonneg _ (by omega)
        have v2 : v < p := by rw [ev]; exact Int.emod_lt_of_pos _ p0
        obtain ⟨st, sl⟩ := e3.law p0 lb (by omega) (by omega) (c := v) (by rw [ev]; exact dvd_mod p _) hub
        have st2 := st.less (m := (addP p (-v) r (List.replicate n 0 ++ b)).length + 1 - b.length) (by omega) (by omega)
        refine ⟨true, h32 h q, ?_, (fun e => by cases e), fun _ => ⟨_, h32 h (q.set n v), (addP p (-v) r (List.replicate n 0 ++ b)).length, by omega, ?_, q.set n v, _, .int (n : Int), .int v, rfl, rfl, rfl, st2, addP_ok p0 _ _ _, by rw [List.length_set, e5], by omega, ?_⟩⟩
        · simp [t32, s32]
          omega
        · have ss : h32 h (q.set n v) = (h32 h q).set (h.length + 1) (intL (q.set n v)) := by unfold h32; rw [h_set]; rfl
          simp [w32, s32, en2]
          rw [index_lastT (x := .tup (intL r)) rfl nr, en3]
          simp [binop_mul (mulOk_r (show u.natAbs < 2 ^ 64 by omega)), binop_mod (posI_of p0), ← ev]
          rw [augX_at (g32 h q) (by omega), ← ss]
          simp [tupK_i1, rep1T 0 (show n ≤ 1000000 by omega)]
          rw [bin_addT (by simp; omega), intL_app]
          simp
          rw [r_lplus _ p _ p0 (by omega) _ _ (by omega) (by simp; omega)]
          simp
        · exact set_Q e7 ⟨v1, v2⟩ _) turns a.length (s32 p u a b a h .una .una) (h32 h (List.replicate Q 0)) (by unfold turns; omega)
    ⟨_, _, _, _, rfl, rfl, rfl, DI.start _ (by omega), ha, by simp, Nat.le_refl _, fun z hz => by rw [List.eq_of_mem_replicate hz]; omega⟩
  exact ⟨q, r, x, y, by unfold c_wh; rw [e, e1, e2], e3, e4, e5, e7⟩
theorem r_ldiv (n : Nat) (p : Int) (hp : p ∈ primes) (a b : List Int) (ha : Nf p a) (hb : Nf p b) (nb : b ≠ []) (la : a.length ≤ 1000) (lb : b.length ≤ 1000) (h : Hh) :
    callF P (n + 130) 32 [.int p, .tup (intL a), .tup (intL b)] h = .ok (.tup [.tup (intL (qr p a b).1), .tup (intL (qr p a b).2)]) h := by
  rw [callF_at P fs32 rfl]
  have pp := pr_pos hp
  have p0 : 0 < p := by omega
  have lb0 := List.length_pos_iff.mpr nb
  have l := lead_rg hp hb nb
  have i := inv_ok hp l.1 l.2
  obtain ⟨u, eu⟩ : ∃ u, u = inv p (co b (b.length - 1)) := ⟨_, rfl⟩
  rw [← eu] at i
  obtain ⟨Q, eQ⟩ : ∃ Q, Q = max 1 (a.length + 1 - b.length) := ⟨_, rfl⟩
  have mx : (if ((a.length : Int) - (b.length : Int) + 1) > 1 then ((a.length : Int) - (b.length : Int) + 1) else 1) = (Q : Int) := by split <;> omega
  obtain ⟨q, lp⟩ := pick1 (fun m => wh32 m p hp u (by omega) a b ha lb0 la lb i.1 h Q (by omega))
  obtain ⟨r, lp⟩ := pick1 lp
  obtain ⟨x, lp⟩ := pick1 lp
  obtain ⟨y, lp⟩ := pick1 lp
  have r1 (l : Hh) (e : l[0]? = some [.int 0]) : binop .mul (.ptr h.length) (.int (Q : Int)) (h ++ l) = newL (h ++ l) (intL (List.replicate Q 0)) :=
    rep1L 0 (by rw [h_get0, e]) (by omega)
  have bm : ∀ h : Hh, builtin .max2 [.int 1, .int ((a.length : Int) - (b.length : Int) + 1)] h = .ok (.int (Q : Int)) h := fun h => by rw [bi_max, mx]
  simp only [b32]
  rw [ev_cons, ev_par2]
  simp [newL0, newL1, -bi_max, bm]
  rw [r1 _ rfl]
  simp [newL1]
  rw [index_lastT (x := .tup (intL b)) rfl nb]
  simp
  rw [r_lundone _ p hp _ l.1 l.2, ← eu]
  simp
  have w := (lp (n + 26)).1
  unfold s32 h32 t32 w32 at w
  rw [ev_wh, w]
  simp
  have g := g32 h (q (n + 26))
  unfold h32 at g
  have pq := (lp (n + 26)).2
  rw [r_ltrim _ _ (q (n + 26)) _ g (by omega), trim_nf pq.2.2.2]
  have dv := pq.1.fin p0 lb0
  rw [nf_self p0 pq.2.1] at dv
  rw [qr_of (pr_of hp) hb nb dv]
  simp [tupK_of, mkT, h_take]
end K4
-- K4j
namespace K4
open PySem Ev Ev.Rx Pm
theorem pyEq_tnil (h : Hh) (xs : List Int) : pyEq h (.tup (intL xs)) (.tup []) = some (decide (xs = [])) := pyEq_tup h xs []
theorem inv_small {p : Int} (hp : p ∈ primes) {x : Int} (h1 : 0 < x) (h2 : x < p) : (inv p x).natAbs < 2 ^ 64 := by
  have := inv_ok hp h1 h2
  have := pr_pos hp
  omega
theorem r_mon (n : Nat) (p : Int) (hp : p ∈ primes) (a : List Int) (ha : Nf p a) (la : a.length ≤ 1000) (h : Hh) :
    callF P (n + 60) 13 [.int p, .tup (intL a)] h = .ok (.tup (intL (monP p a))) h := by
  rw [callF_at P fs13 rfl]
  have pp := pr_pos hp
  simp [b13, pyEq_tnil]
  by_cases c : a = []
  · subst c
    simp [h_take0]
    rfl
  · have l := lead_rg hp ha c
    simp [c]
    rw [index_lastT (x := .tup (intL a)) rfl c]
    simp
    rw [r_undone _ p hp _ l.1 l.2]
    simp
    rw [r_scaled _ p _ (by omega) (inv_small hp l.1 l.2) _ _ (by omega)]
    simp [monP, h_take0]
def w14 (k : Nat) : I := .sCons (.sPar2 1 2 (.var 2) (.ix (.cal k (.acons (.var 0) (.acons (.var 1) (.acons (.var 2) .anil)))) (.cst (.int 1)))) .sNil
def t14 : I := .cmp .ne (.var 2) (.tup .anil)
theorem ix1 (a b : D) (h : Hh) : index (.tup [a, b]) (.int 1) h = .ok b h := rfl
theorem ix0 (a b : D) (h : Hh) : index (.tup [a, b]) (.int 0) h = .ok a h := rfl
theorem wh14 (m k : Nat) (p : Int) (hp : p ∈ primes) (S : List Int → List Int → Sg) (rest : Sg) (eS : ∀ a b, S a b = [.int p, .tup (intL a), .tup (intL b)] ++ rest) (a b : List Int) (ha : Nf p a) (hb : Nf p b) (la : a.length ≤ 1000) (lb : b.length ≤ 1000) (h : Hh)
    (dv : ∀ m a b, Nf p a → Nf p b → b ≠ [] → a.length ≤ 1000 → b.length ≤ 1000 → callF P (m + 130) k [.int p, .tup (intL a), .tup (intL b)] h = .ok (.tup [.tup (intL (qr p a b).1), .tup (intL (qr p a b).2)]) h) :
    c_wh P (m + 150) t14 (w14 k) (S a b) h = .nx (S (gcd p a b) []) h ∧ Nf p (gcd p a b) ∧ (gcd p a b).length ≤ 1000 := by
  have hq := fun a b (_ : Nf p a) hb nb => divs_qr hp a b hb nb
  obtain ⟨G, eG⟩ : ∃ G, G = gcd p a b := ⟨_, rfl⟩
  rw [← eG]
  obtain ⟨σ', h', e, e1, e2, e3, e4⟩ := loopW_inv
    (t := fun σ1 h1 => ev P (m + 150) t14 σ1 h1) (f := fun σ1 h1 => ev P (m + 150) (w14 k) σ1 h1)
    (fun k σ hh => ∃ a b, k = b.length ∧ σ = S a b ∧ hh = h ∧ Nf p a ∧ Nf p b ∧ a.length ≤ 1000 ∧ b.length ≤ 1000 ∧ gcd p a b = G)
    (fun σ hh => σ = S G [] ∧ hh = h ∧ Nf p G ∧ G.length ≤ 1000)
    (fun k' σ hh ⟨a, b, ek, e1, e2, e3, e4, e5, e6, e7⟩ => by
      subst e1 e2
      by_cases c : b = []
      · subst c
        rw [gcd_nil] at e7
        subst e7
        refine ⟨false, hh, ?_, fun _ => ⟨rfl, rfl, e3, e5⟩, (fun e => by cases e)⟩
        rw [eS]
        simp [t14, pyEq_tnil]
      · have d := divs_qr hp a b e4 c
        have lt := d.lt
        refine ⟨true, hh, ?_, (fun e => by cases e), fun _ => ⟨S b (qr p a b).2, hh, (qr p a b).2.length, by omega, ?_, b, (qr p a b).2, rfl, rfl, rfl, e4, d.rn, e6, by omega, by rw [← e7, gcd_step hq e3 e4 c]⟩⟩
        · rw [eS]
          simp [t14, pyEq_tnil, c]
        · rw [eS, eS]
          simp [w14]
          rw [dv (m + 16) a b e3 e4 c e5 e6]
          simp [ix1]) turns b.length (S a b) h (by unfold turns; omega) ⟨a, b, rfl, rfl, rfl, ha, hb, la, lb, eG.symm⟩
  exact ⟨by unfold c_wh; rw [e, e1, e2], e3, e4⟩
theorem r_gcd (n : Nat) (p : Int) (hp : p ∈ primes) (a b : List Int) (ha : Nf p a) (hb : Nf p b) (la : a.length ≤ 1000) (lb : b.length ≤ 1000) (h : Hh) :
    callF P (n + 160) 14 [.int p, .tup (intL a), .tup (intL b)] h = .ok (.tup (intL (monP p (gcd p a b)))) h := by
  rw [callF_at P fs14 rfl]
  obtain ⟨w, g1, g2⟩ := wh14 (n + 8) 12 p hp (fun a b => [.int p, .tup (intL a), .tup (intL b)]) [] (fun a b => rfl) a b ha hb la lb h (fun m a b ha hb nb la lb => r_div (m + 30) p hp a b hb nb la lb h)
  unfold t14 w14 at w
  simp only [b14]
  rw [ev_cons, ev_wh]
  simp only [List.append_nil, List.replicate, Nat.sub_self]
  show called (c_seq P _ _ (c_wh P (n + 158) _ _ [.int p, .tup (intL a), .tup (intL b)] h)) _ = _
  rw [w]
  simp
  rw [r_mon _ p hp _ g1 g2]
  simp [h_take0]
theorem r_lshared (n : Nat) (p : Int) (hp : p ∈ primes) (a b : List Int) (ha : Nf p a) (hb : Nf p b) (la : a.length ≤ 1000) (lb : b.length ≤ 1000) (h : Hh) :
    callF P (n + 160) 33 [.int p, .tup (intL a), .tup (intL b)] h = .ok (.tup (intL (monP p (gcd p a b)))) h := by
  rw [callF_at P fs33 rfl]
  have pp := pr_pos hp
  obtain ⟨w, g1, g2⟩ := wh14 (n + 8) 32 p hp (fun a b => [.int p, .tup (intL a), .tup (intL b), .una, .una]) [.una, .una] (fun a b => rfl) a b ha hb la lb h (fun m a b ha hb nb la lb => r_ldiv m p hp a b ha hb nb la lb h)
  unfold t14 w14 at w
  simp only [b33]
  rw [ev_cons, ev_wh]
  show called (c_seq P _ _ (c_wh P (n + 158) _ _ [.int p, .tup (intL a), .tup (intL b), .una, .una] h)) _ = _
  rw [w]
  obtain ⟨G, eG⟩ : ∃ G, G = gcd p a b := ⟨_, rfl⟩
  rw [← eG] at g1 g2 ⊢
  simp [pyEq_tnil]
  by_cases c : G = []
  · rw [c]
    simp [h_take0]
    rfl
  · have l := lead_rg hp g1 c
    have lc : ∀ m, loopC (.sq (.tup (intL G))) (lcT P (m + 20) (.gv 4) (.cst (.bl true)) (.bin .mod (.bin .mul (.var 3) (.var 4)) (.var 0)) [4] [.int p, .tup (intL G), .tup (intL []), .int (inv p (co G (G.length - 1))), .una]) turns 0 [] h = .oks (intL (monP p G)) h := fun m =>
      lc_ints G (fun x => inv p (co G (G.length - 1)) * x % p) (fun i _ => rfl) (fun x _ => by
        rw [lcT_eq]
        simp [wipeD, binop_mul (mulOk_l (inv_small hp l.1 l.2)), binop_mod (posI_of (show 0 < p by omega))]) (by omega)
    simp [c]
    rw [index_lastT (x := .tup (intL G)) rfl c]
    simp
    rw [r_lundone _ p hp _ l.1 l.2]
    simp
    rw [sqK_of (x := .tup (intL G)) rfl]
    simp
    rw [lc]
    simp [newL0, bi_tup0, h_take]
end K4
-- K4k
namespace K4
open PySem Ev Ev.Rx Pm
def nz (ds : List D) : Bool := match ds.getLast? with
  | some (.int i) => decide (i ≠ 0)
  | _ => true
def okp (p : Int) (v : D) : Bool := match v with
  | .tup ds => decide (ds.length ≤ 13) && (ds.all (inR p) && nz ds)
  | _ => false
/-- values that may stand anywhere -/
structure Val (v : D) : Prop where
  kn : known v = true
  nm : ∀ ds, v ≠ .mtp ds
  it : ∀ ds, v = .tup ds → (∀ d ∈ ds, known d = true) ∧ ds.length ≤ 1000
theorem all_inR {p : Int} : ∀ (ds : List D), ds.all (inR p) = true → ∃ xs, ds = intL xs ∧ ∀ x ∈ xs, 0 ≤ x ∧ x < p
  | [], _ => ⟨[], rfl, (fun _ h => by cases h)⟩
  | d :: ds, h => by
    rw [List.all_cons, Bool.and_eq_true] at h
    obtain ⟨xs, e, q⟩ := all_inR ds h.2
    have h1 := h.1
    cases d with
    | int i =>
      simp [inR] at h1
      exact ⟨i :: xs, by rw [e]; rfl, fun x hx => by
        rcases List.mem_cons.mp hx with r | r
        · subst r; omega
        · exact q x r⟩
    | _ => cases h1
theorem nz_nil : nz [] = true := rfl
theorem nz_intL {xs : List Int} (h : xs ≠ []) : nz (intL xs) = decide (co xs (xs.length - 1) ≠ 0) := by
  obtain ⟨zs, e⟩ := last_of h
  unfold nz
  have : (intL xs).getLast? = some (.int (co xs (xs.length - 1))) := by
    conv => lhs; rw [e]
    rw [← intL_app]
    show (intL zs ++ [D.int _]).getLast? = _
    simp
  rw [this]
theorem nzT (xs : List Int) (hh : Hh) (n : Nat) (σ : Sg) (e : getV σ 1 hh = .ok (.tup (intL xs)) hh) : ev P (n + 20) (.or (.cmp .eq (.var 1) (.tup .anil)) (.one (.cmp .ne (.ix (.var 1) (.neg (.cst (.int 1)))) (.cst (.int 0))))) σ hh = .ok (.bl (nz (intL xs))) hh := by
  simp [e, pyEq_tnil]
  by_cases c : xs = []
  · subst c; simp; rfl
  · simp [c]
    rw [index_lastT (x := .tup (intL xs)) rfl c]
    simp [pyEq_int, nz_intL c]
theorem cs1' : P.cs[1]? = some (.int 12) := rfl
theorem r_ispoly (n : Nat) (p : Int) (v : D) (hv : Val v) (h : Hh) : callF P (n + 80) 15 [.int p, v] h = .ok (.bl (okp p v)) h := by
  rw [callF_at P fs15 rfl]
  have u := known_una hv.kn
  have rr := fun m w => r_row m p w v hv.kn hv.it hv.nm h
  cases v with
  | tup ds =>
    by_cases c : 13 < (ds.length : Int)
    · have c2 : ¬ ds.length ≤ 13 := by omega
      simp [b15, isi_tup, tyT, cs1', c, okp, c2, h_take0]
    · have c2 : ds.length ≤ 13 := by omega
      by_cases q : ds.all (inR p) = true
      · obtain ⟨xs, e, _⟩ := all_inR ds q
        subst e
        have c3 : ¬ 13 < (xs.length : Int) := by simpa using c
        have c4 : xs.length ≤ 13 := by omega
        simp [b15, isi_tup, tyT, cs1', c3, okp, c4, rr, q]
        by_cases z : xs = []
        · subst z; simp [pyEq_tnil, h_take0]; rfl
        · simp [z, pyEq_tnil]
          rw [index_lastT (x := .tup (intL xs)) rfl z]
          simp [pyEq_int, nz_intL z, h_take0]
      · simp [b15, isi_tup, tyT, cs1', c, okp, c2, rr, q, h_take0]
  | mtp ds => exact absurd rfl (hv.nm ds)
  | _ => simp [b15, u, isi_tup hv.kn, tyT, okp, h_take0]
theorem Val.ints (xs : List Int) (l : xs.length ≤ 1000) : Val (.tup (intL xs)) := ⟨rfl, (fun _ e => by cases e), fun ds e => by
  cases e
  refine ⟨fun d hd => ?_, by simpa using l⟩
  obtain ⟨x, _, rfl⟩ := List.mem_map.mp hd
  rfl⟩
theorem okp_of {p : Int} (hp : 0 < p) {xs : List Int} (hx : Nf p xs) (l : xs.length ≤ 13) : okp p (.tup (intL xs)) = true := by
  have a : (intL xs).all (inR p) = true := by
    rw [List.all_eq_true]
    intro d hd
    obtain ⟨x, hx2, rfl⟩ := List.mem_map.mp hd
    have := hx.rs x hx2
    simp [inR]
    omega
  have b : nz (intL xs) = true := by
    by_cases z : xs = []
    · subst z; rfl
    · rw [nz_intL z]
      exact decide_eq_true (trim_last xs hx.tr z)
  simp [okp, a, b, l]
theorem r_isp (n : Nat) (p : Int) (hp : 0 < p) (xs : List Int) (hx : Nf p xs) (l : xs.length ≤ 13) (h : Hh) : callF P (n + 80) 15 [.int p, .tup (intL xs)] h = .ok (.bl true) h := by
  rw [r_ispoly n p _ (.ints xs (by omega)), okp_of hp hx l]
theorem r_reqpoly (n : Nat) (p : Int) (hp : 0 < p) (xs : List Int) (hx : Nf p xs) (l : xs.length ≤ 13) (h : Hh) : callF P (n + 90) 16 [.int p, .tup (intL xs)] h = .ok .non h := by
  rw [callF_at P fs16 rfl]
  simp [b16, r_isp _ p hp xs hx l, h_take0]
theorem r_req1 (n : Nat) (p : Int) (hp : p ∈ primes) (xs : List Int) (hx : Nf p xs) (l : xs.length ≤ 13) (h : Hh) : callF P (n + 100) 17 [.int p, .tup (intL xs)] h = .ok .non h := by
  have pp := pr_pos hp
  rw [callF_at P fs17 rfl]
  simp [b17, r_reqpoly _ p (by omega) xs hx l, r_reqprime _ p hp, h_take0]
theorem r_req2 (n : Nat) (p : Int) (hp : p ∈ primes) (xs ys : List Int) (hx : Nf p xs) (l : xs.length ≤ 13) (hy : Nf p ys) (l2 : ys.length ≤ 13) (h : Hh) : callF P (n + 110) 18 [.int p, .tup (intL xs), .tup (intL ys)] h = .ok .non h := by
  have pp := pr_pos hp
  rw [callF_at P fs18 rfl]
  simp [b18, r_reqpoly _ p (by omega) ys hy l2, r_req1 _ p hp _ hx l, h_take0]
theorem r_isP (n : Nat) (p : Int) (hp : p ∈ primes) (v : D) (hv : Val v) (h : Hh) : callF P (n + 100) 19 [.int p, v] h = .ok (.bl (okp p v)) h := by
  have u := known_una hv.kn
  rw [callF_at P fs19 rfl]
  simp [b19, u, r_ispoly _ p v hv, r_reqprime _ p hp, h_take0]
theorem r_sum (n : Nat) (p : Int) (hp : p ∈ primes) (xs ys : List Int) (hx : Nf p xs) (l : xs.length ≤ 13) (hy : Nf p ys) (l2 : ys.length ≤ 13) (h : Hh) : callF P (n + 120) 20 [.int p, .tup (intL xs), .tup (intL ys)] h = .ok (.tup (intL (addP p 1 xs ys))) h := by
  have pp := pr_pos hp
  rw [callF_at P fs20 rfl]
  simp [b20, r_req2 _ p hp _ _ hx l hy l2]
  rw [r_polyadd _ p 1 (by omega) (by decide) _ _ (by omega) (by omega)]
  simp [h_take0]
theorem r_less (n : Nat) (p : Int) (hp : p ∈ primes) (xs ys : List Int) (hx : Nf p xs) (l : xs.length ≤ 13) (hy : Nf p ys) (l2 : ys.length ≤ 13) (h : Hh) : callF P (n + 120) 21 [.int p, .tup (intL xs), .tup (intL ys)] h = .ok (.tup (intL (addP p (-1) xs ys))) h := by
  have pp := pr_pos hp
  rw [callF_at P fs21 rfl]
  simp [b21, r_req2 _ p hp _ _ hx l hy l2]
  rw [r_polyadd _ p (-1) (by omega) (by decide) _ _ (by omega) (by omega)]
  simp [h_take0]
theorem nf_small {p : Int} (hp : p ∈ primes) {xs : List Int} (hx : Nf p xs) : ∀ x ∈ xs, x.natAbs < 2 ^ 64 := fun x h => by
  have := hx.rs x h
  have := pr_pos hp
  omega
theorem r_prod (n : Nat) (p : Int) (hp : p ∈ primes) (xs ys : List Int) (hx : Nf p xs) (l : xs.length ≤ 13) (hy : Nf p ys) (l2 : ys.length ≤ 13) (h : Hh) : callF P (n + 120) 22 [.int p, .tup (intL xs), .tup (intL ys)] h = .ok (.tup (intL (mulP p xs ys))) h := by
  have pp := pr_pos hp
  rw [callF_at P fs22 rfl]
  simp [b22, r_req2 _ p hp _ _ hx l hy l2]
  rw [r_times _ p (by omega) (by omega) _ _ (by omega) (by omega) (nf_small hp hx)]
  simp [h_take0]
theorem r_parts (n : Nat) (p : Int) (hp : p ∈ primes) (xs ys : List Int) (hx : Nf p xs) (l : xs.length ≤ 13) (hy : Nf p ys) (l2 : ys.length ≤ 13) (ny : ys ≠ []) (h : Hh) : callF P (n + 140) 23 [.int p, .tup (intL xs), .tup (intL ys)] h = .ok (.tup [.tup (intL (qr p xs ys).1), .tup (intL (qr p xs ys).2)]) h := by
  have pp := pr_pos hp
  rw [callF_at P fs23 rfl]
  simp [b23, r_req2 _ p hp _ _ hx l hy l2, pyEq_tnil, ny]
  rw [r_div _ p hp _ _ hy ny (by omega) (by omega)]
  simp [h_take0]
theorem r_shared (n : Nat) (p : Int) (hp : p ∈ primes) (xs ys : List Int) (hx : Nf p xs) (l : xs.length ≤ 13) (hy : Nf p ys) (l2 : ys.length ≤ 13) (h : Hh) : callF P (n + 190) 24 [.int p, .tup (intL xs), .tup (intL ys)] h = .ok (.tup (intL (monP p (gcd p xs ys)))) h := by
  have pp := pr_pos hp
  rw [callF_at P fs24 rfl]
  simp [b24, r_req2 _ p hp _ _ hx l hy l2]
  rw [r_gcd _ p hp _ _ hx hy (by omega) (by omega)]
  simp [h_take0]
end K4
-- K4l
namespace K4
open PySem Ev Ev.Rx Pm
/-- values that == reads -/
def Nice (d : D) : Prop := known d = true ∧ ∃ q, (∀ h, py h 19 d = some q) ∧ q.canLay0 = true
theorem nice_int (i : Int) : Nice (.int i) := ⟨rfl, _, fun h => rfl, by simp [PyData.canLay0]⟩
theorem nice_bl (i : Bool) : Nice (.bl i) := ⟨rfl, _, fun h => rfl, by simp [PyData.canLay0]⟩
theorem nice_non : Nice .non := ⟨rfl, _, fun h => rfl, by simp [PyData.canLay0]⟩
theorem nice_str (x : Str) (e : PyData.canLay0 (.str x) = true) : Nice (.str x) := ⟨rfl, _, fun h => rfl, e⟩
theorem nice_tup (xs : List Int) : Nice (.tup (intL xs)) := ⟨rfl, _, fun h => py_tup h 17 xs, eq_lay xs⟩
theorem nice_all (h : Hh) : ∀ ds : List D, (∀ d ∈ ds, Nice d) → ∃ ps, mapO (py h 19) ds = some ps ∧ PyData.canLayAll0 ps = true ∧ ps.length = ds.length
  | [], _ => ⟨[], rfl, by simp [PyData.canLayAll0], rfl⟩
  | d :: ds, hd => by
    obtain ⟨ps, e, c, l⟩ := nice_all h ds fun d h => hd d (List.mem_cons_of_mem _ h)
    obtain ⟨_, q, e1, e2⟩ := hd d (List.mem_cons_self ..)
    refine ⟨q :: ps, ?_, by simp [PyData.canLayAll0, e2, c], by simp [l]⟩
    show (match py h 19 d with | some p => (match mapO (py h 19) ds with | some ps => some (p :: ps) | none => none) | none => none) = _
    rw [e1 h, e]
theorem pyEq_nil {h : Hh} {a b : Nat} {ds : List D} (hd : ∀ d ∈ ds, Nice d) (e : h[a]? = some ds) (e2 : h[b]? = some []) : pyEq h (.ptr a) (.ptr b) = some ds.isEmpty := by
  obtain ⟨ps, m, c, l⟩ := nice_all h ds hd
  have q1 : py h 20 (.ptr a) = some (.list ps) := by
    show (match h[a]? with | some ds => (match mapO (py h 19) ds with | some ps => some (PyData.list ps) | none => none) | none => none) = _
    rw [e]
    dsimp only
    rw [m]
  have q2 : py h 20 (.ptr b) = some (.list []) := by
    show (match h[b]? with | some ds => (match mapO (py h 19) ds with | some ps => some (PyData.list ps) | none => none) | none => none) = _
    rw [e2]
    rfl
  unfold pyEq
  rw [q1, q2]
  have k1 : PyData.canLay0 (.list ps) = true := by simp [PyData.canLay0, c]
  have k2 : PyData.canLay0 (.list []) = true := by simp [PyData.canLay0, PyData.canLayAll0]
  dsimp only
  rw [k1, k2]
  show some (PyData.eqv (.list ps) (.list [])) = _
  unfold PyData.eqv
  cases ps with
  | nil =>
    have : ds = [] := List.length_eq_zero_iff.mp (by simpa using l.symm)
    subst this
    unfold PyData.eqvAll
    rfl
  | cons p ps =>
    cases ds with
    | nil => cases l
    | cons d ds => unfold PyData.eqvAll; rfl
def gNot (d : D) : Option D := match d with
  | .int _ => none
  | d => some d
theorem gNot_nil : ∀ ds : List D, ds.filterMap gNot = [] → ∃ xs, ds = intL xs
  | [], _ => ⟨[], rfl⟩
  | d :: ds, h => by
    cases d with
    | int i =>
      obtain ⟨xs, e⟩ := gNot_nil ds h
      exact ⟨i :: xs, by rw [e]; rfl⟩
    | _ => cases h
theorem gNot_sub (ds : List D) (hd : ∀ d ∈ ds, Nice d) : ∀ d ∈ ds.filterMap gNot, Nice d := fun d h => by
  obtain ⟨x, hx, e⟩ := List.mem_filterMap.mp h
  have := hd x hx
  cases x <;> first | (cases e; done) | (injection e with e; rw [← e]; exact this)
def gOut (p : Int) (d : D) : Option D := match d with
  | .int i => if 0 ≤ i ∧ i < p then none else some (.int i)
  | _ => none
theorem gOut_eq (p : Int) : ∀ xs : List Int, (intL xs).filterMap (gOut p) = intL (xs.filter fun i => !(decide (0 ≤ i) && decide (i < p)))
  | [] => rfl
  | x :: xs => by
    have ih := gOut_eq p xs
    show (D.int x :: intL xs).filterMap (gOut p) = _
    by_cases c : 0 ≤ x ∧ x < p
    · rw [List.filterMap_cons_none (by simp [gOut, c]), List.filter_cons_of_neg (by simp [c]), ih]
    · rw [List.filterMap_cons_some (b := .int x) (by simp [gOut, c]), List.filter_cons_of_pos (by simp; omega), ih]
      rfl
theorem gNot_not : ∀ ds : List D, ds.filterMap gNot ≠ [] → ∀ p, ds.all (inR p) = false
  | [], h, p => absurd rfl h
  | d :: ds, h, p => by
    cases d with
    | int i => rw [List.all_cons, gNot_not ds h p, Bool.and_false]
    | _ => rfl
theorem out_all (p : Int) : ∀ xs : List Int, (intL xs).all (inR p) = (xs.filter fun i => !(decide (0 ≤ i) && decide (i < p))).isEmpty
  | [] => rfl
  | x :: xs => by
    have ih := out_all p xs
    show (inR p (.int x) && (intL xs).all (inR p)) = _
    rw [ih]
    by_cases c : 0 ≤ x ∧ x < p
    · rw [List.filter_cons_of_neg (by simp [c])]
      have : inR p (.int x) = true := by simp [inR]; omega
      rw [this]; rfl
    · rw [List.filter_cons_of_pos (by simp; omega)]
      have : inR p (.int x) = false := by simp [inR]; omega
      rw [this]; rfl
def f35 : I := .or (.not (.tv (.isi .isIntB (.var 2)))) (.one (.tv (.isi .isBoolB (.var 2))))
def g35 : I := .not (.chn .le .lt (.cst (.int 0)) (.var 2) (.var 0))
theorem lc35a (m : Nat) (p : Int) (ds : List D) (hd : ∀ d ∈ ds, Nice d) (hl : ds.length ≤ 1000) (h : Hh) :
    loopC (.sq (.tup ds)) (lcT P (m + 20) (.gv 2) f35 (.var 2) [2] [.int p, .tup ds, .una]) turns 0 [] h = .oks (ds.filterMap gNot) h :=
  loopC_fm gNot ds (fun i _ => rfl) (fun d hx => by
    have k := (hd d hx).1
    have u := known_una k
    cases d with
    | int i => exact .inr ⟨rfl, [.int p, .tup ds, .int i], by rw [lcT_eq]; simp [wipeD, f35, isi_int, isi_bl]⟩
    | bl b =>
      refine .inl ⟨_, rfl, ?_⟩
      rw [lcT_eq]
      simp [wipeD, f35, isi_int k, isi_bl k, tyI, tyB]
    | _ =>
      refine .inl ⟨_, rfl, ?_⟩
      rw [lcT_eq]
      simp [wipeD, f35, isi_int k, isi_bl k, tyI, tyB, u]) (by omega)
theorem lc35b (m : Nat) (p : Int) (xs : List Int) (hl : xs.length ≤ 1000) (h : Hh) :
    loopC (.sq (.tup (intL xs))) (lcT P (m + 20) (.gv 2) g35 (.var 2) [2] [.int p, .tup (intL xs), .una]) turns 0 [] h = .oks (intL (xs.filter fun i => !(decide (0 ≤ i) && decide (i < p)))) h := by
  rw [← gOut_eq]
  exact loopC_fm (gOut p) (intL xs) (fun i _ => rfl) (fun d hx => by
    obtain ⟨i, hi, rfl⟩ := List.mem_map.mp hx
    by_cases c : 0 ≤ i ∧ i < p
    · refine .inr ⟨by simp [gOut, c], [.int p, .tup (intL xs), .int i], ?_⟩
      rw [lcT_eq]
      simp [wipeD, g35, c]
    · refine .inl ⟨.int i, by simp [gOut, c], ?_⟩
      rw [lcT_eq]
      by_cases c1 : 0 ≤ i
      · have c2 : ¬ i < p := fun q => c ⟨c1, q⟩
        simp [wipeD, g35, c1, c2]
      · simp [wipeD, g35, c1]) (by simp; omega)
/-- values near a polynomial -/
structure Any (v : D) : Prop extends Val v where
  nice : ∀ ds, v = .tup ds → ∀ d ∈ ds, Nice d
theorem r_due (n : Nat) (p : Int) (v : D) (hv : Any v) (h : Hh) : callF P (n + 80) 35 [.int p, v] h = .ok (.bl (okp p v)) h := by
  rw [callF_at P fs35 rfl]
  have u := known_una hv.kn
  cases v with
  | tup ds =>
    by_cases c : 13 < (ds.length : Int)
    · have c2 : ¬ ds.length ≤ 13 := by omega
      simp [b35, isi_tup, tyT, c, okp, c2, h_take0]
    · have c2 : ds.length ≤ 13 := by omega
      have hd := hv.nice ds rfl
      have la := fun m => lc35a m p ds hd (by omega) h
      unfold f35 at la
      have sub := gNot_sub ds hd
      have nl := gNot_nil ds
      have nn := gNot_not ds
      revert la sub nl nn
      generalize ds.filterMap gNot = L
      intro la sub nl nn
      have g0 : (h ++ [L, []])[h.length]? = some L := by rw [h_get0]; rfl
      have g1 : (h ++ [L, []])[h.length + 1]? = some [] := by rw [h_get]; rfl
      have e1 := pyEq_nil sub g0 g1
      simp [b35, isi_tup, tyT, c, sqK_of (x := .tup ds) rfl, la, newL0, newL1, e1]
      by_cases q : L = []
      · obtain ⟨xs, ex⟩ := nl q
        subst q
        subst ex
        have c3 : xs.length ≤ 13 := by simpa using c2
        have lb := fun m => lc35b m p xs (by omega) (h ++ [[], []])
        have oa := out_all p xs
        unfold g35 at lb
        revert lb oa
        generalize (xs.filter fun i => !(decide (0 ≤ i) && decide (i < p))) = ys
        intro lb oa
        have g2 : (h ++ [[], [], intL ys, []])[h.length + 2]? = some (intL ys) := by rw [h_get]; rfl
        have g3 : (h ++ [[], [], intL ys, []])[h.length + 3]? = some (intL []) := by rw [h_get]; rfl
        simp [sqK_of (x := .tup (intL xs)) rfl, lb, newL1, pyEq_lst g2 g3, okp, c3, oa]
        by_cases z2 : ys = []
        · subst z2
          simp
          by_cases z : xs = []
          · subst z; simp [pyEq_tnil, h_take]; rfl
          · simp [z, pyEq_tnil]
            rw [index_lastT (x := .tup (intL xs)) rfl z]
            simp [pyEq_int, nz_intL z, h_take]
        · simp [z2, h_take]
      · have := nn q p
        simp [q, okp, this, h_take]
  | mtp ds => exact absurd rfl (hv.nm ds)
  | _ => simp [b35, u, isi_tup hv.kn, tyT, okp, h_take0]
end K4
-- K4m
namespace K4
open PySem Ev Ev.Rx Pm
theorem take_set (h : Hh) (a : Nat) (d : List D) : (h.set a d).take h.length = h.set a d := by
  rw [List.take_of_length_le]; simp
theorem mul_k {k : Int} (hk : k.natAbs < 2 ^ 64) (i : Int) (h : Hh) : binop .mul (.int k) (.int i) h = .ok (.int (k * i)) h := binop_mul (mulOk_l hk) h
theorem mul_r {k : Int} (hk : k.natAbs < 2 ^ 64) (i : Int) (h : Hh) : binop .mul (.int i) (.int k) h = .ok (.int (i * k)) h := binop_mul (mulOk_r hk) h
theorem set3_0 {a : Nat} {x y z : Int} {h : Hh} (e : h[a]? = some (intL [x, y, z])) (σ : Sg) (v : Int) : augXK (.ptr a) (.int 0) σ (.int v) h = .nx σ (h.set a (intL [v, y, z])) :=
  augX_at (j := 0) e (by simp) σ v
theorem set3_2 {a : Nat} {x y z : Int} {h : Hh} (e : h[a]? = some (intL [x, y, z])) (σ : Sg) (v : Int) : augXK (.ptr a) (.int 2) σ (.int v) h = .nx σ (h.set a (intL [x, y, v])) :=
  augX_at (j := 2) e (by simp) σ v
theorem ix3_0 {a : Nat} {x y z : Int} {h : Hh} (e : h[a]? = some (intL [x, y, z])) : index (.ptr a) (.int 0) h = .ok (.int x) h := index_nat (j := 0) (x := .ptr a) e rfl
theorem ix3_1 {a : Nat} {x y z : Int} {h : Hh} (e : h[a]? = some (intL [x, y, z])) : index (.ptr a) (.int 1) h = .ok (.int y) h := index_nat (j := 1) (x := .ptr a) e rfl
theorem ix3_2 {a : Nat} {x y z : Int} {h : Hh} (e : h[a]? = some (intL [x, y, z])) : index (.ptr a) (.int 2) h = .ok (.int z) h := index_nat (j := 2) (x := .ptr a) e rfl
theorem get_set {a : Nat} {ds : List D} {h : Hh} (e : h[a]? = some ds) (es : List D) : (h.set a es)[a]? = some es := by
  have := (List.getElem?_eq_some_iff.mp e).1
  simp [this]
theorem r_ladle (x y z t : Int) (ht : 0 < t) (ht2 : t.natAbs < 2 ^ 60) :
    ∃ v x' y' z', (∀ m a h, h[a]? = some (intL [x, y, z]) → callF P (m + 60) 26 [.ptr a, .int t] h = .ok (.int v) (h.set a (intL [x', y', z']))) ∧ 0 ≤ v ∧ v < t := by
  by_cases c : 0 < x
  · refine ⟨x % t, x / t, y, z, fun m a h e => ?_, Int.emod_nonneg _ (by omega), Int.emod_lt_of_pos _ ht⟩
    rw [callF_at P fs26 rfl]
    simp [b26, ix3_0 e, c, binop_mod (posI_of ht), binop_fdiv (divOk_of ht (by omega)), set3_0 e, take_set]
  · obtain ⟨v1, q1⟩ : ∃ v1, v1 = (y + 7368787 * (z + 1)) % 2305843009213693951 := ⟨_, rfl⟩
    have b1 : 0 ≤ v1 ∧ v1 < 2305843009213693951 := by rw [q1]; exact ⟨Int.emod_nonneg _ (by decide), Int.emod_lt_of_pos _ (by decide)⟩
    refine ⟨((v1 * v1 + 163 * (z + 1)) % 2305843009213693951 * 4256249 + v1) / 65536 % t, x, y, z + 1, fun m a h e => ?_, Int.emod_nonneg _ (by omega), Int.emod_lt_of_pos _ ht⟩
    have e1 := get_set e (intL [x, y, z + 1])
    rw [callF_at P fs26 rfl]
    simp [b26, ix3_0 e, ix3_2 e, c, set3_2 e, ix3_1 e1, ix3_2 e1, mul_k (k := 7368787) (by decide), mul_k (k := 163) (by decide), binop_mod (posI_of (j := 2305843009213693951) (by decide)), ← q1, mul_k (k := v1) (by omega), mul_r (k := 4256249) (by decide), binop_fdiv (divOk_of (j := 65536) (by decide) (by decide)), binop_mod (posI_of ht)]
    rw [← List.length_set, List.take_length]
/-- the heap with the pot changed -/
def Hp (h : Hh) (a : Nat) (h' : Hh) : Prop := ∃ x y z, h' = h.set a (intL [x, y, z])
def Pot (h : Hh) (a : Nat) : Prop := ∃ x y z, h[a]? = some (intL [x, y, z])
theorem Hp.pot {h h' : Hh} {a : Nat} (p : Pot h a) (q : Hp h a h') : Pot h' a := by
  obtain ⟨x, y, z, e⟩ := p
  obtain ⟨x', y', z', rfl⟩ := q
  exact ⟨x', y', z', get_set e _⟩
theorem Hp.trans {h h1 h2 : Hh} {a : Nat} (q : Hp h a h1) (r : Hp h1 a h2) : Hp h a h2 := by
  obtain ⟨x, y, z, rfl⟩ := q
  obtain ⟨x', y', z', rfl⟩ := r
  exact ⟨x', y', z', by rw [List.set_set]⟩
theorem Hp.len {h h1 : Hh} {a : Nat} (q : Hp h a h1) : h1.length = h.length := by
  obtain ⟨x, y, z, rfl⟩ := q
  rw [List.length_set]
theorem Hp.refl {h : Hh} {a : Nat} (p : Pot h a) : Hp h a h := by
  obtain ⟨x, y, z, e⟩ := p
  refine ⟨x, y, z, ?_⟩
  refine List.ext_getElem? fun k => ?_
  rw [List.getElem?_set]
  by_cases c : a = k
  · subst c
    obtain ⟨lt, e2⟩ := List.getElem?_eq_some_iff.mp e
    simp [lt, e2]
  · simp [c]
theorem r_ladleH (a : Nat) (t : Int) (ht : 0 < t) (ht2 : t.natAbs < 2 ^ 60) (h : Hh) (p : Pot h a) :
    ∃ v h', (∀ m, callF P (m + 60) 26 [.ptr a, .int t] h = .ok (.int v) h') ∧ Hp h a h' ∧ 0 ≤ v ∧ v < t := by
  obtain ⟨x, y, z, e⟩ := p
  obtain ⟨v, x', y', z', q, r⟩ := r_ladle x y z t ht ht2
  exact ⟨v, _, fun m => q m a h e, ⟨x', y', z', rfl⟩, r⟩
/-- a comprehension that changes the heap -/
theorem loopC_inv {s : Src} {f : D → Hh → R} (St : Nat → List D → Hh → Prop) (n : Nat)
    (step : ∀ i acc h, i < n → St i acc h → ∃ d y h', srcAt h s i = some (some d) ∧ f d h = .ok y h' ∧ St (i + 1) (acc ++ [y]) h')
    (done : ∀ acc h, St n acc h → srcAt h s n = some none) (hn : n < 1000000) :
    ∀ (m i : Nat) (acc : List D) (h : Hh), n < m + i → i ≤ n → acc.length = i → St i acc.reverse h → ∃ ds h', loopC s f m i acc h = .oks ds h' ∧ St n ds h'
  | 0, i, acc, h, h1, h2, _, _ => by omega
  | m + 1, i, acc, h, h1, h2, h3, st => by
    unfold loopC
    rcases Nat.lt_or_ge i n with hi | hi
    · obtain ⟨d, y, h', e1, e2, st'⟩ := step i _ h hi st
      rw [e1]
      dsimp only
      rw [e2]
      dsimp only
      exact loopC_inv St n step done hn m (i + 1) (y :: acc) h' (by omega) (by omega) (by simp [h3]) (by simpa using st')
    · have e : i = n := by omega
      subst e
      rw [done _ h st]
      have e : Nat.ble acc.length line = true := Nat.ble_eq.mpr (by unfold line; omega)
      dsimp only
      rw [e]
      exact ⟨_, _, rfl, st⟩
theorem src_up {h : Hh} {lo : Int} {n i : Nat} (hi : i < n) : srcAt h (.rg lo 1 n) i = some (some (.int (lo + (i : Int) * 1))) := by
  show (match Nat.blt i n with | true => some (some (D.int (lo + (i : Int) * 1))) | false => some none) = _
  rw [Nat.blt_eq.mpr hi]
theorem r_drawn (m a : Nat) (p : Int) (hp : p ∈ primes) (most : Nat) (hm : most ≤ 100) (h : Hh) (po : Pot h a) :
    ∃ xs h', callF P (m + 100) 34 [.ptr a, .int p, .int (most : Int)] h = .ok (.tup (intL xs)) h' ∧ Hp h a h' ∧ Nf p xs ∧ xs.length ≤ most + 1 := by
  have pp := pr_pos hp
  obtain ⟨v, h1, e1, H1, v0, v1⟩ := r_ladleH a ((most : Int) + 2) (by omega) (by omega) h po
  obtain ⟨ds, h2, lp, H2, ys, eds, ly, ry⟩ := loopC_inv (s := .rg 0 1 v.toNat) (f := lcT P (m + 94) (.gv 4) (.cst (.bl true)) (.cal 26 (.acons (.var 0) (.acons (.var 1) .anil))) [4] [.ptr a, .int p, .int (most : Int), .int v, .una])
    (fun i acc hh => Hp h a hh ∧ ∃ xs, acc = intL xs ∧ xs.length = i ∧ ∀ x ∈ xs, 0 ≤ x ∧ x < p) v.toNat
    (fun i acc hh hi ⟨q1, xs, q2, q3, q4⟩ => by
      obtain ⟨w, h2, e2, H2, w0, w1⟩ := r_ladleH a p (by omega) (by omega) hh (q1.pot po)
      refine ⟨_, .int w, h2, src_up hi, ?_, q1.trans H2, xs ++ [w], by rw [q2, ← intL_app]; rfl, by simp [q3], fun x hx => ?_⟩
      · rw [lcT_eq]
        simp [wipeD, e2]
      · rcases List.mem_append.mp hx with r | r
        · exact q4 x r
        · have : x = w := by simpa using r
          omega)
    (fun _ _ _ => src_rend) (by omega) turns 0 [] h1 (by unfold turns; omega) (Nat.zero_le _) rfl ⟨H1, [], rfl, rfl, (fun _ hx => by cases hx)⟩
  have p0 : 0 < p := by omega
  refine ⟨trim ys, h2, ?_, H2, nf_trim p0 ry, by have := trim_length ys; omega⟩
  rw [callF_at P fs34 rfl]
  simp [b34, e1]
  rw [rng1 v (by omega)]
  simp
  rw [lp, eds]
  simp [newL0]
  rw [r_ltrim _ _ ys _ (by rw [h_get0]; rfl) (by omega)]
  simp [← H2.len]
theorem r_pick (a b : Nat) (is : List Int) (hi : is ≠ []) (hl : is.length ≤ 1000) (h : Hh) (po : Pot h a) (ab : a ≠ b) (eb : h[b]? = some (intL is)) :
    ∃ v h', (∀ m, callF P (m + 100) 27 [.ptr a, .ptr b] h = .ok (.int v) h') ∧ Hp h a h' ∧ v ∈ is := by
  have l0 := List.length_pos_iff.mpr hi
  obtain ⟨v, h1, e1, H1, v0, v1⟩ := r_ladleH a (is.length : Int) (by omega) (by omega) h po
  obtain ⟨k, rfl⟩ : ∃ k : Nat, v = (k : Int) := ⟨v.toNat, by omega⟩
  have lt : k < is.length := by omega
  have eb1 : h1[b]? = some (intL is) := by
    obtain ⟨x, y, z, rfl⟩ := H1
    rw [List.getElem?_set_ne ab, eb]
  refine ⟨co is k, h1, fun m => ?_, H1, List.mem_of_getElem? (co_get lt)⟩
  rw [callF_at P fs27 rfl]
  simp [b27, bi_lenL eb, e1]
  rw [index_nat (x := .ptr b) eb1 (co_get lt)]
  simp [← H1.len]
def c25a : I := .bin .pow (.bin .pow (.cst (.int 10)) (.cst (.int 53))) (.cst (.int 6))
def c25b : I := .bin .pow (.cst (.int 10)) (.cst (.int 16))
theorem big : ∃ B : Int, 0 < B ∧ ∀ m σ h, ev P (m + 4) c25a σ h = .ok (.int B) h := ⟨(10 ^ 53) ^ 6, by decide, fun _ _ _ => rfl⟩
theorem big2 : ∃ B : Int, ∀ m σ h, ev P (m + 4) c25b σ h = .ok (.int B) h := ⟨10 ^ 16, fun _ _ _ => rfl⟩
theorem back_at {h h0 : Hh} {ds : List D} {a : Nat} (n : Nat) (hn : n ≤ a) (e : h[a]? = some ds) (q : ds.any isPtr = false) (t : h.take n = h0) : back n (.ptr a) h = .ok (.ptr n) (h0 ++ [ds]) := by
  have b : Nat.blt a n = false := by
    cases z : Nat.blt a n with
    | false => rfl
    | true => have := Nat.blt_eq.mp z; omega
  show (match Nat.blt a n with
    | true => R.ok (.ptr a) (h.take n)
    | false => (match h[a]? with
      | some ds => (match ds.any isPtr with
        | true => .ok (.ptr a) h
        | false => .ok (.ptr n) (h.take n ++ [ds]))
      | none => .no)) = _
  rw [b, e]
  dsimp only
  rw [q, t]
theorem r_pot (n : Nat) (ns : List Int) (i : Nat) (h : Hh) : ∃ x y z, callF P (n + 60) 25 [.frl (intL ns), .int (i : Int)] h = .ok (.ptr h.length) (h ++ [intL [x, y, z]]) := by
  obtain ⟨B, B0, eB⟩ := big
  obtain ⟨C, eC⟩ := big2
  rw [callF_at P fs25 rfl]
  have eb : b25 = b25 := rfl
  conv at eb => rhs; unfold b25
  rw [show (I.bin .pow (.bin .pow (.cst (.int 10)) (.cst (.int 53))) (.cst (.int 6))) = c25a from rfl, show (I.bin .pow (.cst (.int 10)) (.cst (.int 16))) = c25b from rfl] at eb
  simp only [eb]
  have cell : ∃ c, ∀ m, ev P (m + 20) (.ife (.cmp .lt (.var 1) (.blt .len (.acons (.var 0) .anil))) (.blt .int (.acons (.ix (.var 0) (.var 1)) .anil)) (.bin .add (.bin .mul (.cst (.int 157)) (.var 1)) (.cst (.int 83)))) [.frl (intL ns), .int (i : Int), .una, .una] h = .ok (.int c) h := by
    by_cases c : i < ns.length
    · refine ⟨co ns i, fun m => ?_⟩
      simp [bi_len (x := .frl (intL ns)) rfl, c, index_nat (x := .frl (intL ns)) rfl (co_get c)]
    · refine ⟨157 * i + 83, fun m => ?_⟩
      simp [bi_len (x := .frl (intL ns)) rfl, c, mul_k (k := 157) (by decide)]
  obtain ⟨c, cell⟩ := cell
  revert cell eB eC
  generalize (I.ife (.cmp .lt (.var 1) (.blt .len (.acons (.var 0) .anil))) (.blt .int (.acons (.ix (.var 0) (.var 1)) .anil)) (.bin .add (.bin .mul (.cst (.int 157)) (.var 1)) (.cst (.int 83)))) = T1
  generalize c25a = T2
  generalize c25b = T3
  intro eB eC cell
  simp [cell, eB, eC, binop_mod (posI_of B0), binop_mod (posI_of (j := 2147483489) (by decide)), mul_r (k := 97) (by decide), mul_k (k := 619) (by decide), mul_k (k := 37) (by decide)]
  rw [show (∀ X Y : Int, lstK [D.int X, D.int Y, D.int 0] h = newL h (intL [X, Y, 0])) from fun X Y => rfl]
  simp [newL0]
  exact ⟨_, _, _, back_at h.length (Nat.le_refl _) (by rw [h_get0]; rfl) (intL_any _) (h_take h _)⟩
end K4
-- K4n
namespace K4
open PySem Ev Ev.Rx Pm
theorem pot_lt {h : Hh} {a : Nat} (p : Pot h a) : a < h.length := by
  obtain ⟨x, y, z, e⟩ := p
  exact (List.getElem?_eq_some_iff.mp e).1
theorem pot_app {h : Hh} {a : Nat} (p : Pot h a) (l : Hh) : Pot (h ++ l) a := by
  have lt := pot_lt p
  obtain ⟨x, y, z, e⟩ := p
  exact ⟨x, y, z, by rw [List.getElem?_append_left lt, e]⟩
theorem r_ladleA (a : Nat) (t : Int) (ht : 0 < t) (ht2 : t.natAbs < 2 ^ 60) (h : Hh) (p : Pot h a) :
    ∃ v h1, (∀ m l, callF P (m + 60) 26 [.ptr a, .int t] (h ++ l) = .ok (.int v) (h1 ++ l)) ∧ Hp h a h1 ∧ 0 ≤ v ∧ v < t := by
  have lt := pot_lt p
  obtain ⟨x, y, z, e⟩ := p
  obtain ⟨v, x', y', z', q, r⟩ := r_ladle x y z t ht ht2
  refine ⟨v, h.set a (intL [x', y', z']), fun m l => ?_, ⟨x', y', z', rfl⟩, r⟩
  rw [q m a (h ++ l) (by rw [List.getElem?_append_left lt, e]), List.set_append_left _ _ lt]
theorem back_ptr {h : Hh} {ds : List D} {a : Nat} (n : Nat) (hn : n ≤ a) (e : h[a]? = some ds) (q : ds.any isPtr = true) : back n (.ptr a) h = .ok (.ptr a) h := by
  have b : Nat.blt a n = false := by
    cases z : Nat.blt a n with
    | false => rfl
    | true => have := Nat.blt_eq.mp z; omega
  show (match Nat.blt a n with
    | true => R.ok (.ptr a) (h.take n)
    | false => (match h[a]? with
      | some ds => (match ds.any isPtr with
        | true => .ok (.ptr a) h
        | false => .ok (.ptr n) (h.take n ++ [ds]))
      | none => .no)) = _
  rw [b, e]
  dsimp only
  rw [q]
theorem cut_ints (xs : List Int) (l u : Option Int) : ∃ ys, cut (intL xs) l u = intL ys ∧ ys.length ≤ xs.length := by
  unfold cut
  refine ⟨((xs.drop (clip (intL xs).length 0 l)).take (clip (intL xs).length (intL xs).length u - clip (intL xs).length 0 l)), ?_, ?_⟩
  · unfold intL
    rw [List.map_take, List.map_drop]
  · simp; omega
theorem sl_to (ds : List D) (k : Int) (h : Hh) : slice (.tup ds) .non (.int k) h = .ok (.tup (cut ds none (some k))) h := rfl
theorem sl_from (ds : List D) (k : Int) (h : Hh) : slice (.tup ds) (.int k) .non h = .ok (.tup (cut ds (some k) none)) h := rfl
theorem Any.ints (xs : List Int) (l : xs.length ≤ 1000) : Any (.tup (intL xs)) := ⟨.ints xs l, fun ds e d hd => by
  cases e
  obtain ⟨x, _, rfl⟩ := List.mem_map.mp hd
  exact nice_int x⟩
theorem Any.flat {v : D} (k : known v = true) (nt : ∀ ds, v ≠ .tup ds) (nm : ∀ ds, v ≠ .mtp ds) : Any v := ⟨⟨k, nm, fun ds e => absurd e (nt ds)⟩, fun ds e => absurd e (nt ds)⟩
theorem Any.tup {ds : List D} (h : ∀ d ∈ ds, Nice d) (l : ds.length ≤ 1000) : Any (.tup ds) := ⟨⟨rfl, (fun _ e => by cases e), fun es e => by cases e; exact ⟨fun d hd => (h d hd).1, l⟩⟩, fun es e => by cases e; exact h⟩
def c36 : I := .bin .pow (.cst (.int 10)) (.cst (.int 60))
theorem big3 : ∃ B : Int, ∀ m σ h, ev P (m + 4) c36 σ h = .ok (.int B) h := ⟨10 ^ 60, fun _ _ _ => rfl⟩
theorem r_near (n a : Nat) (p : Int) (hp : p ∈ primes) (xs : List Int) (hl : xs.length ≤ 13) (h : Hh) (po : Pot h a) :
    ∃ b vs h1 l, callF P (n + 120) 36 [.ptr a, .int p, .tup (intL xs)] h = .ok (.ptr b) (h1 ++ l) ∧ Hp h a h1 ∧ (h1 ++ l)[b]? = some vs ∧ vs.length ≤ 1000 ∧ ∀ v ∈ vs, Any v := by
  obtain ⟨B, eB⟩ := big3
  rw [callF_at P fs36 rfl]
  have eb : b36 = b36 := rfl
  conv at eb => rhs; unfold b36
  rw [show (I.bin .pow (.cst (.int 10)) (.cst (.int 60))) = c36 from rfl] at eb
  simp only [eb]
  revert eB
  generalize c36 = T3
  intro eB
  obtain ⟨y1, f1, g1⟩ := cut_ints xs none (some (-1))
  obtain ⟨y2, f2, g2⟩ := cut_ints xs (some 1) none
  have l1 : xs.length ≤ 999999 := by omega
  have l2 : 1 + xs.length ≤ 1000000 := by omega
  have r12 : ∀ (x : Int) h, binop .mul (.tup [.int x]) (.int 12) h = .ok (.tup (intL (List.replicate 12 x))) h := fun x h => rep1T (n := 12) x (by decide) h
  have r13 : ∀ (x : Int) h, binop .mul (.tup [.int x]) (.int 13) h = .ok (.tup (intL (List.replicate 13 x))) h := fun x h => rep1T (n := 13) x (by decide) h
  have r14 : ∀ (x : Int) h, binop .mul (.tup [.int x]) (.int 14) h = .ok (.tup (intL (List.replicate 14 x))) h := fun x h => rep1T (n := 14) x (by decide) h
  have aL : ∀ (i j : Nat) (l : Hh) (ds es : List D), l[i]? = some ds → l[j]? = some es → ds.length + es.length ≤ 1000000 → binop .add (.ptr (h.length + i)) (.ptr (h.length + j)) (h ++ l) = newL (h ++ l) (ds ++ es) := fun i j l ds es e1 e2 hl => bin_addL (get_in h l i _ e1) (get_in h l j _ e2) hl
  obtain ⟨v1, h1, e1, H1, _⟩ := r_ladleA a 9 (by decide) (by decide) h po
  obtain ⟨v2, h2, e2, H2, _⟩ := r_ladleA a 9 (by decide) (by decide) h1 (H1.pot po)
  have el : h2.length = h.length := (H1.trans H2).len
  have aL2 : ∀ (i j : Nat) (l : Hh) (ds es : List D), l[i]? = some ds → l[j]? = some es → ds.length + es.length ≤ 1000000 → binop .add (.ptr (h.length + i)) (.ptr (h.length + j)) (h2 ++ l) = newL (h2 ++ l) (ds ++ es) := fun i j l ds es q1 q2 hl => by
    rw [← el]
    exact bin_addL (get_in h2 l i _ q1) (get_in h2 l j _ q2) hl
  have gi : ∀ (l : Hh) (i : Nat), (h2 ++ l)[h.length + i]? = l[i]? := fun l i => by rw [← el, h_get]
  have tk : ∀ d : D, isPtr d = false → ∀ h, tupK [d] h = .ok (.tup [d]) h := fun d q h => by
    rw [tupK_of (by simp)]
    simp [mkT, q]
  have tk2 : ∀ d e : D, isPtr d = false → isPtr e = false → ∀ h, tupK [d, e] h = .ok (.tup [d, e]) h := fun d e q r h => by
    rw [tupK_of (by simp)]
    simp [mkT, q, r]
  simp [eB, tk, tk2, lst_of, newL0, newL1, bin_addT, l1, r12, r13, r14, sl_to, sl_from, f1, f2, l2]
  rw [aL 1 2 _ _ _ rfl rfl (by simp)]
  simp [eB, tk, tk2, lst_of, newL1, bin_addT, sl_to, sl_from, f1, f2]
  rw [aL 3 4 _ _ _ rfl rfl (by simp)]
  simp [eB, tk, tk2, lst_of, newL1, bin_addT, sl_to, sl_from, f1, f2]
  rw [aL 5 6 _ _ _ rfl rfl (by simp)]
  simp [eB, tk, tk2, lst_of, newL1, bin_addT, sl_to, sl_from, f1, f2, e1, e2]
  rw [el, aL2 7 8 _ _ _ rfl rfl (by simp)]
  simp [newL0, el]
  rw [back_ptr (ds := _) h.length (by omega) (by rw [gi]; rfl) rfl]
  clear eb
  refine ⟨_, ?vs, h2, _, rfl, H1.trans H2, ?q1, ?q2, ?q3⟩
  case q1 => rw [gi]; rfl
  case q2 => simp
  have ic : ∀ (ys : List Int) (y : Int), intL ys ++ [D.int y] = intL (ys ++ [y]) := fun ys y => intL_app ys [y]
  simp only [List.forall_mem_cons, ic]
  have i1 : ∀ y : Int, Any (.tup [.int y]) := fun y => Any.ints [y] (by simp)
  refine ⟨Any.ints _ (by omega), .flat rfl (fun _ e => by cases e) (fun _ e => by cases e), Any.ints _ (by simp; omega), Any.ints _ (by simp; omega), Any.ints _ (by simp; omega), Any.ints _ (by simp; omega),
    Any.tup (fun d hd => ?_) (by simp; omega), .flat rfl (fun _ e => by cases e) (fun _ e => by cases e), .flat rfl (fun _ e => by cases e) (fun _ e => by cases e), .flat rfl (fun _ e => by cases e) (fun _ e => by cases e), .flat rfl (fun _ e => by cases e) (fun _ e => by cases e),
    i1 _, Any.ints _ (by simp), Any.ints _ (by simp), Any.ints _ (by simp), Any.ints _ (by simp), i1 _, Any.tup (fun d hd => ?_) (by simp), Any.tup (fun d hd => ?_) (by simp), Any.ints _ (by omega), Any.ints _ (by omega), i1 _, i1 _, Any.tup (fun d hd => ?_) (by simp), Any.ints [v1, v2] (by simp), (fun _ h => by cases h)⟩
  · rcases List.mem_cons.mp hd with e | e
    · rw [e]; exact nice_bl true
    · obtain ⟨x, _, rfl⟩ := List.mem_map.mp e
      exact nice_int x
  · have e : d = .tup [.int 1] := by simpa using hd
    rw [e]; exact nice_tup [1]
  · have e : d = .str (Str.ofString "1") := by simpa using hd
    rw [e]; exact nice_str _ (by unfold PyData.canLay0; decide +kernel)
  · have e : d = .int 1 ∨ d = .non := by simpa using hd
    rcases e with e | e
    · rw [e]; exact nice_int 1
    · rw [e]; exact nice_non
end K4
-- K4o
namespace K4
open PySem Ev Ev.Rx Pm
theorem eqvT (xs ys : List PyData) : PyData.eqv (.tuple xs) (.tuple ys) = PyData.eqvAll xs ys := by
  conv => lhs; unfold PyData.eqv
theorem eqvC (x y : PyData) (xs ys : List PyData) : PyData.eqvAll (x :: xs) (y :: ys) = (PyData.eqv x y && PyData.eqvAll xs ys) := by
  conv => lhs; unfold PyData.eqvAll
theorem eqvN : PyData.eqvAll [] [] = true := by unfold PyData.eqvAll; rfl
theorem pyEq_pair (h : Hh) (a b c d : List Int) : pyEq h (.tup [.tup (intL a), .tup (intL b)]) (.tup [.tup (intL c), .tup (intL d)]) = some (decide (a = c) && decide (b = d)) := by
  have q : ∀ a b : List Int, py h 20 (.tup [.tup (intL a), .tup (intL b)]) = some (.tuple [.tuple (a.map PyData.int), .tuple (b.map PyData.int)]) := fun a b => by
    show (match mapO (py h 19) [D.tup (intL a), D.tup (intL b)] with | some ps => some (PyData.tuple ps) | none => none) = _
    have : mapO (py h 19) [D.tup (intL a), D.tup (intL b)] = some [.tuple (a.map PyData.int), .tuple (b.map PyData.int)] := by
      show (match py h 19 (.tup (intL a)) with | some p => (match (match py h 19 (.tup (intL b)) with | some p => (match some ([] : List PyData) with | some ps => some (p :: ps) | none => none) | none => none) with | some ps => some (p :: ps) | none => none) | none => none) = _
      rw [py_tup h 17, py_tup h 17]
    rw [this]
  have k : ∀ a b : List Int, PyData.canLay0 (.tuple [.tuple (a.map PyData.int), .tuple (b.map PyData.int)]) = true := fun a b => by
    unfold PyData.canLay0 PyData.canLayAll0
    rw [eq_lay]
    unfold PyData.canLayAll0
    rw [eq_lay]
    unfold PyData.canLayAll0
    rfl
  unfold pyEq
  rw [q, q]
  dsimp only
  rw [k, k]
  show some (PyData.eqv _ _) = _
  rw [eqvT, eqvC, eqvT, eqv_ints, eqvC, eqvT, eqv_ints, eqvN, Bool.and_true]
/-- heaps that only changed the pot, and grew -/
def Ext (h : Hh) (a : Nat) (H : Hh) : Prop := ∃ h' l, Hp h a h' ∧ H = h' ++ l
theorem Ext.refl {h : Hh} {a : Nat} (p : Pot h a) : Ext h a h := ⟨h, [], .refl p, by simp⟩
theorem Ext.app {h H : Hh} {a : Nat} (e : Ext h a H) (l : Hh) : Ext h a (H ++ l) := by
  obtain ⟨h', l', q, rfl⟩ := e
  exact ⟨h', l' ++ l, q, by rw [List.append_assoc]⟩
theorem Ext.pot {h H : Hh} {a : Nat} (p : Pot h a) (e : Ext h a H) : Pot H a := by
  obtain ⟨h', l', q, rfl⟩ := e
  exact pot_app (q.pot p) l'
theorem Ext.hp {h H H' : Hh} {a : Nat} (p : Pot h a) (e : Ext h a H) (q : Hp H a H') : Ext h a H' := by
  obtain ⟨h', l', r, rfl⟩ := e
  obtain ⟨x, y, z, rfl⟩ := q
  refine ⟨h'.set a (intL [x, y, z]), l', r.trans ⟨x, y, z, rfl⟩, ?_⟩
  rw [List.set_append_left _ _ (pot_lt (r.pot p))]
theorem Ext.fin {h H : Hh} {a : Nat} (e : Ext h a H) : ∃ h', Hp h a h' ∧ H.take h.length = h' := by
  obtain ⟨h', l', r, rfl⟩ := e
  exact ⟨h', r, by rw [← r.len, h_take]⟩
theorem lst4 (a b c d : Int) (h : Hh) : lstK [.int a, .int b, .int c, .int d] h = newL h (intL [a, b, c, d]) := rfl
theorem mon_ok {p : Int} (hp : p ∈ primes) {a : List Int} (ha : Nf p a) : Nf p (monP p a) := by
  by_cases c : a = []
  · subst c; exact .nil
  · exact mon_nf hp ha c
theorem r_prod0 (n : Nat) (p : Int) (hp : p ∈ primes) (xs : List Int) (hx : Nf p xs) (l : xs.length ≤ 13) (h : Hh) : callF P (n + 120) 22 [.int p, .tup (intL xs), .tup []] h = .ok (.tup []) h := by
  have := r_prod n p hp xs [] hx l .nil (by simp) h
  rw [mulP_nil] at this
  exact this
theorem r_shared0 (n : Nat) (p : Int) (hp : p ∈ primes) (xs : List Int) (hx : Nf p xs) (l : xs.length ≤ 13) (h : Hh) : callF P (n + 190) 24 [.int p, .tup (intL xs), .tup []] h = .ok (.tup (intL (monP p xs))) h :=
  r_shared n p hp xs [] hx l .nil (by simp) h
theorem r_lshared0 (n : Nat) (p : Int) (hp : p ∈ primes) (xs : List Int) (hx : Nf p xs) (l : xs.length ≤ 1000) (h : Hh) : callF P (n + 160) 33 [.int p, .tup (intL xs), .tup []] h = .ok (.tup (intL (monP p xs))) h :=
  r_lshared n p hp xs [] hx .nil l (by simp) h
def b37t : I := (.sCons (.sAsg (.gv 2) (.cal 34 (.acons (.var 0) (.acons (.var 1) (.acons (.cst (.int 4)) .anil))))) (.sCons (.sPar2 8 9 (.cal 30 (.acons (.var 1) (.acons (.sl (.var 3) .pno (.po (.cst (.int 5)))) (.acons (.var 2) .anil)))) (.cal 30 (.acons (.var 1) (.acons (.sl (.var 4) .pno (.po (.cst (.int 5)))) (.acons (.var 2) .anil))))) (.sCons (.sIf (.and (.cmp .ne (.var 2) (.tup .anil)) (.one (.cmp .ne (.ix (.cal 32 (.acons (.var 1) (.acons (.cal 24 (.acons (.var 1) (.acons (.var 8) (.acons (.var 9) .anil)))) (.acons (.var 2) .anil)))) (.cst (.int 1))) (.tup .anil)))) (.sCons (.sRet (.cst (.bl false))) .sNil) .sNil) (.sCons (.sRet (.cmp .eq (.lc (.gv 10) (.iS (.cal 36 (.acons (.var 0) (.acons (.var 1) (.acons (.var 3) .anil))))) (.cmp .ne (.cal 19 (.acons (.var 1) (.acons (.var 10) .anil))) (.cal 35 (.acons (.var 1) (.acons (.var 10) .anil)))) (.var 10) [10]) (.lst .anil))) .sNil))))
theorem cut_take (xs : List Int) (k : Nat) : cut (intL xs) none (some (k : Int)) = intL (xs.take k) := by
  show ((intL xs).drop 0).take (min k (intL xs).length - 0) = _
  rw [List.drop_zero, Nat.sub_zero, ← List.take_eq_take_min, intL_take]
theorem r_tail (n a : Nat) (h h4 : Hh) (E4 : Ext h a h4) (po : Pot h a) (p : Int) (hp : p ∈ primes) (xs ys : List Int) (lx : xs.length ≤ 13) (hx : Nf p xs) (hy : Nf p ys) (t l d7 : D) :
    ∃ h', called (ev P (n + 210) b37t [.ptr a, .int p, .una, .tup (intL xs), .tup (intL ys), t, l, d7, .una, .una, .una] h4) h.length = .ok (.bl true) h' ∧ Hp h a h' := by
  have pp := pr_pos hp
  have p0 : 0 < p := by omega
  obtain ⟨zs, h5, e5, H5, hz, lz⟩ := r_drawn (n + 107) a p hp 4 (by omega) h4 (E4.pot po)
  have E5 := E4.hp po H5
  simp only [b37t]
  simp -implicitDefEqProofs
  rw [show (4 : Int) = ((4 : Nat) : Int) from rfl, e5]
  simp -implicitDefEqProofs
  have sl5 : ∀ (xs : List Int) h, slice (.tup (intL xs)) .non (.int 5) h = .ok (.tup (intL (xs.take 5))) h := fun xs h => by
    rw [sl_to]
    exact congrArg (fun d => R.ok (.tup d) h) (cut_take xs 5)
  have sm : ∀ xs : List Int, Nf p xs → ∀ x ∈ xs.take 5, x.natAbs < 2 ^ 64 := fun xs hx x h => nf_small hp hx x (List.mem_of_mem_take h)
  have T1 := fun m h => r_ltimes m p p0 (by omega) (xs.take 5) zs (by simp; omega) (by omega) (sm xs hx) h
  have T2 := fun m h => r_ltimes m p p0 (by omega) (ys.take 5) zs (by simp; omega) (by omega) (sm ys hy) h
  have F1 := mulP_ok p0 (xs.take 5) zs
  have F2 := mulP_ok p0 (ys.take 5) zs
  have l1 : (mulP p (xs.take 5) zs).length ≤ 13 := by have := mulP_len (p := p) (xs.take 5) zs; simp at this; omega
  have l2 : (mulP p (ys.take 5) zs).length ≤ 13 := by have := mulP_len (p := p) (ys.take 5) zs; simp at this; omega
  have G := fun m h => r_shared m p hp _ _ F1 l1 F2 l2 h
  have hq := fun a b (_ : Nf p a) hb nb => divs_qr hp a b hb nb
  have gd := gcdP_dv (t := zs) hq (mulP p (ys.take 5) zs).length _ _ F1 F2 (Dv.mul zs (xs.take 5)) (Dv.mul zs (ys.take 5))
  have gd1 : Dv p zs (monP p (gcd p (mulP p (xs.take 5) zs) (mulP p (ys.take 5) zs))) := mon_dv gd.1
  have gd2 : Nf p (monP p (gcd p (mulP p (xs.take 5) zs) (mulP p (ys.take 5) zs))) := mon_ok hp gd.2
  have gd3 : (monP p (gcd p (mulP p (xs.take 5) zs) (mulP p (ys.take 5) zs))).length ≤ 1000 := by
    have := (wh14 0 12 p hp (fun a b => [.int p, .tup (intL a), .tup (intL b)]) [] (fun a b => rfl) _ _ F1 F2 (by omega) (by omega) h (fun m a b ha hb nb la lb => r_div (m + 30) p hp a b hb nb la lb h)).2.2
    simpa [monP] using this
  simp -implicitDefEqProofs [sl5, T1, T2]
  obtain ⟨b, vs, h6, lh, e6, H6, g6, lv, av⟩ := r_near (n + 81) a p hp xs lx h5 (E5.pot po)
  have E6 := (E5.hp po H6).app lh
  revert e6 g6 E6
  generalize h6 ++ lh = K
  intro e6 g6 E6
  have lc : ∀ m, loopC (.sq (.ptr b)) (lcT P (m + 130) (.gv 10) (.cmp .ne (.cal 19 (.acons (.var 1) (.acons (.var 10) .anil))) (.cal 35 (.acons (.var 1) (.acons (.var 10) .anil)))) (.var 10) [10] [.ptr a, .int p, .tup (intL zs), .tup (intL xs), .tup (intL ys), t, l, d7, .tup (intL (mulP p (xs.take 5) zs)), .tup (intL (mulP p (ys.take 5) zs)), .una]) turns 0 [] K = .oks [] K := fun m => by
    rw [loopC_fm (fun _ => none) vs (fun i _ => src_sq (x := .ptr b) g6 i) (fun v hv => .inr ⟨rfl, [.ptr a, .int p, .tup (intL zs), .tup (intL xs), .tup (intL ys), t, l, d7, .tup (intL (mulP p (xs.take 5) zs)), .tup (intL (mulP p (ys.take 5) zs)), v], by
      have A := av v hv
      rw [lcT_eq]
      simp [wipeD, known_una A.kn, r_isP _ p hp v A.toVal, r_due _ p v A, pyEq_bl]⟩) (by omega)]
    simp
  have pe : pyEq (K ++ [[], []]) (.ptr K.length) (.ptr (K.length + 1)) = some true := by
    rw [pyEq_lst (xs := []) (ys := []) (by rw [h_get0]; rfl) (by rw [h_get]; rfl)]
    simp
  obtain ⟨h', q1, q2⟩ := (E6.app [[], []]).fin
  refine ⟨h', ?_, q1⟩
  by_cases z : zs = []
  · subst z
    simp -implicitDefEqProofs [pyEq_tnil]
    rw [e6]
    simp -implicitDefEqProofs
    rw [sqK_of (x := .ptr b) g6]
    simp -implicitDefEqProofs
    rw [lc]
    simp -implicitDefEqProofs [newL0, pe]
    exact q2
  · have dz := divs_qr hp (monP p (gcd p (mulP p (xs.take 5) zs) (mulP p (ys.take 5) zs))) zs hz z
    have r0 : (qr p (monP p (gcd p (mulP p (xs.take 5) zs) (mulP p (ys.take 5) zs))) zs).2 = [] := Dv.rest (pr_of hp) hz z dz gd1
    have D := fun m h => r_ldiv m p hp _ zs gd2 hz z gd3 (by omega) h
    simp -implicitDefEqProofs [pyEq_tnil, z, G, D, ix1, r0]
    rw [e6]
    simp -implicitDefEqProofs
    rw [sqK_of (x := .ptr b) g6]
    simp -implicitDefEqProofs
    rw [lc]
    simp -implicitDefEqProofs [newL0, pe]
    exact q2
end K4
-- K4p
namespace K4
open PySem Ev Ev.Rx Pm
theorem b37_eq : b37 = (.sCons (.sAsg (.gv 1) (.cal 27 (.acons (.var 0) (.acons (.lst (.acons (.cst (.int 2)) (.acons (.cst (.int 3)) (.acons (.cst (.int 5)) (.acons (.cst (.int 7)) .anil))))) .anil)))) (.sCons (.sPar2 3 4 (.cal 34 (.acons (.var 0) (.acons (.var 1) (.acons (.cst (.int 12)) .anil)))) (.cal 34 (.acons (.var 0) (.acons (.var 1) (.acons (.cal 27 (.acons (.var 0) (.acons (.lst (.acons (.cst (.int 1)) (.acons (.cst (.int 3)) (.acons (.cst (.int 6)) (.acons (.cst (.int 12)) .anil))))) .anil))) .anil))))) (.sCons (.sPar2 5 6 (.cal 29 (.acons (.var 1) (.acons (.var 3) (.acons (.var 4) (.acons (.cst (.int 1)) .anil))))) (.cal 29 (.acons (.var 1) (.acons (.var 3) (.acons (.var 4) (.acons (.neg (.cst (.int 1))) .anil)))))) (.sCons (.sIf (.or (.cmp .ne (.cal 20 (.acons (.var 1) (.acons (.var 3) (.acons (.var 4) .anil)))) (.var 5)) (.one (.cmp .ne (.cal 21 (.acons (.var 1) (.acons (.var 3) (.acons (.var 4) .anil)))) (.var 6)))) (.sCons (.sRet (.cst (.bl false))) .sNil) .sNil) (.sCons (.sIf (.or (.cmp .ne (.cal 21 (.acons (.var 1) (.acons (.var 5) (.acons (.var 4) .anil)))) (.var 3)) (.one (.cmp .ne (.cal 20 (.acons (.var 1) (.acons (.var 6) (.acons (.var 4) .anil)))) (.var 3)))) (.sCons (.sRet (.cst (.bl false))) .sNil) .sNil) (.sCons (.sIf (.cmp .ne (.cal 22 (.acons (.var 1) (.acons (.var 3) (.acons (.var 4) .anil)))) (.cal 30 (.acons (.var 1) (.acons (.var 3) (.acons (.var 4) .anil))))) (.sCons (.sRet (.cst (.bl false))) .sNil) .sNil) (.sCons (.sIf (.or (.cmp .ne (.cal 22 (.acons (.var 1) (.acons (.var 4) (.acons (.var 3) .anil)))) (.cal 30 (.acons (.var 1) (.acons (.var 3) (.acons (.var 4) .anil))))) (.one (.cmp .ne (.cal 22 (.acons (.var 1) (.acons (.var 3) (.acons (.tup .anil) .anil)))) (.tup .anil)))) (.sCons (.sRet (.cst (.bl false))) .sNil) .sNil) (.sCons (.sIf (.cmp .ne (.cal 24 (.acons (.var 1) (.acons (.var 3) (.acons (.var 4) .anil)))) (.cal 33 (.acons (.var 1) (.acons (.var 3) (.acons (.var 4) .anil))))) (.sCons (.sRet (.cst (.bl false))) .sNil) .sNil) (.sCons (.sIf (.cmp .ne (.cal 24 (.acons (.var 1) (.acons (.var 3) (.acons (.tup .anil) .anil)))) (.cal 33 (.acons (.var 1) (.acons (.var 3) (.acons (.tup .anil) .anil))))) (.sCons (.sRet (.cst (.bl false))) .sNil) .sNil) (.sCons (.sIf (.cmp .ne (.var 4) (.tup .anil)) (.sCons (.sAsg (.gv 7) (.cal 23 (.acons (.var 1) (.acons (.var 3) (.acons (.var 4) .anil))))) (.sCons (.sIf (.or (.cmp .ne (.var 7) (.cal 32 (.acons (.var 1) (.acons (.var 3) (.acons (.var 4) .anil))))) (.one (.cmp .ge (.blt .len (.acons (.ix (.var 7) (.cst (.int 1))) .anil)) (.blt .len (.acons (.var 4) .anil))))) (.sCons (.sRet (.cst (.bl false))) .sNil) .sNil) (.sCons (.sIf (.cmp .ne (.cal 29 (.acons (.var 1) (.acons (.cal 30 (.acons (.var 1) (.acons (.ix (.var 7) (.cst (.int 0))) (.acons (.var 4) .anil)))) (.acons (.ix (.var 7) (.cst (.int 1))) (.acons (.cst (.int 1)) .anil))))) (.var 3)) (.sCons (.sRet (.cst (.bl false))) .sNil) .sNil) .sNil))) .sNil) b37t)))))))))) := rfl
theorem r_right (n a : Nat) (h : Hh) (po : Pot h a) : ∃ h', callF P (n + 220) 37 [.ptr a] h = .ok (.bl true) h' ∧ Hp h a h' := by
  rw [callF_at P fs37 rfl]
  obtain ⟨p, h1, e1, H1, hp⟩ := r_pick a h.length [2, 3, 5, 7] (by simp) (by simp) (h ++ [intL [2, 3, 5, 7]]) (pot_app po _) (Nat.ne_of_lt (pot_lt po)) (by rw [h_get0]; rfl)
  have E1 : Ext h a h1 := ((Ext.refl po).app _).hp po H1
  have hp : p ∈ primes := hp
  have pp := pr_pos hp
  simp only [b37_eq]
  simp -implicitDefEqProofs [lst4, newL0]
  rw [e1]
  simp -implicitDefEqProofs
  obtain ⟨xs, h2, e2, H2, hx, lx⟩ := r_drawn (n + 116) a p hp 12 (by decide) h1 (E1.pot po)
  have E2 := E1.hp po H2
  rw [show (12 : Int) = ((12 : Nat) : Int) from rfl, e2]
  simp -implicitDefEqProofs [lst4, newL0]
  obtain ⟨d, h3, e3, H3, hd⟩ := r_pick a h2.length [1, 3, 6, 12] (by simp) (by simp) (h2 ++ [intL [1, 3, 6, 12]]) ((E2.app _).pot po) (Nat.ne_of_lt (pot_lt (E2.pot po))) (by rw [h_get0]; rfl)
  have E3 := (E2.app _).hp po H3
  rw [e3]
  simp -implicitDefEqProofs
  obtain ⟨k, ek⟩ : ∃ k : Nat, d = (k : Int) ∧ k ≤ 12 := by
    have : d = 1 ∨ d = 3 ∨ d = 6 ∨ d = 12 := by simpa using hd
    rcases this with r | r | r | r
    · exact ⟨1, r, by omega⟩
    · exact ⟨3, r, by omega⟩
    · exact ⟨6, r, by omega⟩
    · exact ⟨12, r, by omega⟩
  obtain ⟨rfl, k12⟩ := ek
  obtain ⟨ys, h4, e4, H4, hy, ly⟩ := r_drawn (n + 116) a p hp k (by omega) h3 (E3.pot po)
  have E4 := E3.hp po H4
  rw [e4]
  simp -implicitDefEqProofs
  have p0 : 0 < p := by omega
  have A1 := fun m h => r_lplus m p 1 p0 (by decide) xs ys (by omega) (by omega) h
  have A2 := fun m h => r_lplus m p (-1) p0 (by decide) xs ys (by omega) (by omega) h
  have S1 := fun m h => r_sum m p hp xs ys hx lx hy (by omega) h
  have S2 := fun m h => r_less m p hp xs ys hx lx hy (by omega) h
  have N1 := addP_ok p0 1 xs ys
  have N2 := addP_ok p0 (-1) xs ys
  have B1 := addP_len (p := p) 1 xs ys
  have B2 := addP_len (p := p) (-1) xs ys
  have S3 := fun m h => r_less m p hp _ ys N1 (by omega) hy (by omega) h
  have S4 := fun m h => r_sum m p hp _ ys N2 (by omega) hy (by omega) h
  rw [addP_back p0 (by decide) hx] at S3 S4
  have M1 := fun m h => r_prod m p hp xs ys hx lx hy (by omega) h
  have M2 := fun m h => r_ltimes m p p0 (by omega) xs ys (by omega) (by omega) (nf_small hp hx) h
  have M3 := fun m h => r_prod m p hp ys xs hy (by omega) hx lx h
  rw [mulP_comm p0] at M3
  have M4 := fun m h => r_prod0 m p hp xs hx lx h
  have G1 := fun m h => r_shared m p hp xs ys hx lx hy (by omega) h
  have G2 := fun m h => r_lshared m p hp xs ys hx hy (by omega) (by omega) h
  have G3 := fun m h => r_shared0 m p hp xs hx lx h
  have G4 := fun m h => r_lshared0 m p hp xs hx (by omega) h
  simp -implicitDefEqProofs [A1, A2]
  simp -implicitDefEqProofs [S1, S2, pyEq_tup]
  simp -implicitDefEqProofs [S3, S4, pyEq_tup]
  have pn : ∀ h : Hh, pyEq h (.tup []) (.tup []) = some true := fun h => pyEq_tup h [] []
  simp -implicitDefEqProofs [M1, M2, pyEq_tup]
  simp -implicitDefEqProofs [M3, M4, pn, M2, pyEq_tup]
  simp -implicitDefEqProofs [G1, G2, pyEq_tup]
  simp -implicitDefEqProofs [G3, G4, pyEq_tup]
  have RT := fun d => r_tail n a h h4 E4 po p hp xs ys lx hx hy (.tup (intL (addP p 1 xs ys))) (.tup (intL (addP p (-1) xs ys))) d
  by_cases z : ys = []
  · subst z
    have R := RT .una
    simp -implicitDefEqProofs [pyEq_tnil]
    exact R
  · have D1 := fun m h => r_parts m p hp xs ys hx lx hy (by omega) z h
    have D2 := fun m h => r_ldiv m p hp xs ys hx hy z (by omega) (by omega) h
    have dl := divs_len hp xs ys hy z
    have dv := dl.1
    have lt := dv.lt
    have X1 := fun m h => r_ltimes m p p0 (by omega) (qr p xs ys).1 ys (by omega) (by omega) (nf_small hp dv.qn) h
    have ml := mulP_len (p := p) (qr p xs ys).1 ys
    have X2 := fun m h => r_lplus m p 1 p0 (by decide) (mulP p (qr p xs ys).1 ys) (qr p xs ys).2 (by omega) (by omega) h
    have xe : addP p 1 (mulP p (qr p xs ys).1 ys) (qr p xs ys).2 = xs := (addP_ok p0 _ _ _).ext p0 hx ((addP_co _ _ _).trans fun k => by
      obtain ⟨u, e⟩ := dv.eq k
      obtain ⟨v, e2⟩ := mulP_co (p := p) (qr p xs ys).1 ys k
      exact ⟨v - u, by dsimp only at e ⊢; grind⟩)
    rw [xe] at X2
    have R := RT (.tup [.tup (intL (qr p xs ys).1), .tup (intL (qr p xs ys).2)])
    have nlt : ¬ ys.length ≤ (qr p xs ys).2.length := by omega
    simp -implicitDefEqProofs [z, pyEq_tnil, D1, D2, pyEq_pair, ix1, ix0, nlt]
    simp -implicitDefEqProofs [X1, X2, ix1, ix0, pyEq_tup]
    exact R
end K4
-- K4q
namespace K4
open PySem Ev Ev.Rx Pm
theorem divs_calc {p : Int} {a b q r : List Int} (hq : Nf p q) (hr : Nf p r) (lt : r.length < b.length) (e : nf p (addS 1 (mulL q b) r) = a) : Divs p a b q r :=
  ⟨hq, hr, lt, by
    rw [← e]
    exact (nf_eqm _).trans (Eqm.of _ _ fun k => by rw [co_addS, co_mulL])⟩
theorem nf_is {p : Int} {xs : List Int} (e : (xs.all fun x => decide (0 ≤ x) && decide (x < p)) = true) (t : trim xs = xs) : Nf p xs := ⟨fun x hx => by
  have := List.all_eq_true.mp e x hx
  simp at this
  exact this, t⟩
theorem q1 : qr 2 [1, 0, 1, 1] [1, 1] = ([0, 0, 1], [1]) :=
  qr_of (pr_of (by decide)) (nf_is rfl rfl) (by simp) (divs_calc (nf_is rfl rfl) (nf_is rfl rfl) (by decide) (by decide))
theorem q2 : qr 3 [2, 0, 1] [1, 1] = ([2, 1], []) :=
  qr_of (pr_of (by decide)) (nf_is rfl rfl) (by simp) (divs_calc (nf_is rfl rfl) (nf_is rfl rfl) (by decide) (by decide))
theorem g2 : monP 3 (gcd 3 [2, 0, 1] [1, 1]) = [1, 1] := by
  rw [gcd_step (fun a b _ hb nb => divs_qr (by decide) a b hb nb) (nf_is rfl rfl) (nf_is rfl rfl) (by simp), q2]
  show monP 3 (gcd 3 [1, 1] []) = _
  rw [gcd_nil]
  decide
theorem P1 (m : Nat) (h : Hh) : callF P (m + 140) 23 [.int 2, .tup [.int 1, .int 0, .int 1, .int 1], .tup [.int 1, .int 1]] h = .ok (.tup [.tup [.int 0, .int 0, .int 1], .tup [.int 1]]) h := by
  have := r_parts m 2 (by decide) [1, 0, 1, 1] [1, 1] (nf_is rfl rfl) (by decide) (nf_is rfl rfl) (by decide) (by simp) h
  rw [q1] at this
  exact this
theorem P2 (m : Nat) (h : Hh) : callF P (m + 190) 24 [.int 3, .tup [.int 2, .int 0, .int 1], .tup [.int 1, .int 1]] h = .ok (.tup [.int 1, .int 1]) h := by
  have := r_shared m 3 (by decide) [2, 0, 1] [1, 1] (nf_is rfl rfl) (by decide) (nf_is rfl rfl) (by decide) h
  rw [g2] at this
  exact this
theorem P3 (m : Nat) (h : Hh) : callF P (m + 190) 24 [.int 5, .tup [], .tup []] h = .ok (.tup []) h :=
  r_shared m 5 (by decide) [] [] .nil (by decide) .nil (by decide) h
theorem P4 (m : Nat) (h : Hh) : callF P (m + 120) 22 [.int 7, .tup [.int 3], .tup [.int 5]] h = .ok (.tup [.int 1]) h := by
  have := r_prod m 7 (by decide) [3] [5] (nf_is rfl rfl) (by decide) (nf_is rfl rfl) (by decide) h
  rw [show mulP 7 [3] [5] = [1] by decide] at this
  exact this
theorem P5 (m : Nat) (h : Hh) : callF P (m + 120) 20 [.int 2, .tup [.int 1, .int 1], .tup [.int 0, .int 1]] h = .ok (.tup [.int 1]) h := by
  have := r_sum m 2 (by decide) [1, 1] [0, 1] (nf_is rfl rfl) (by decide) (nf_is rfl rfl) (by decide) h
  rw [show addP 2 1 [1, 1] [0, 1] = [1] by decide] at this
  exact this
theorem P6 (m : Nat) (h : Hh) : callF P (m + 120) 21 [.int 7, .tup [], .tup [.int 1, .int 6]] h = .ok (.tup [.int 6, .int 1]) h := by
  have := r_less m 7 (by decide) [] [1, 6] .nil (by decide) (nf_is rfl rfl) (by decide) h
  rw [show addP 7 (-1) [] [1, 6] = [6, 1] by decide] at this
  exact this
def toldL : List D := [.tup [.tup [.int 0, .int 0, .int 1], .tup [.int 1]], .tup [.int 1, .int 1], .tup []]
theorem pyEq_told {h : Hh} {a b : Nat} (e : h[a]? = some toldL) (e2 : h[b]? = some toldL) : pyEq h (.ptr a) (.ptr b) = some true := by
  have q : ∀ a, h[a]? = some toldL → py h 20 (.ptr a) = some (.list [.tuple [.tuple [.int 0, .int 0, .int 1], .tuple [.int 1]], .tuple [.int 1, .int 1], .tuple []]) := fun a e => by
    show (match h[a]? with | some ds => (match mapO (py h 19) ds with | some ps => some (PyData.list ps) | none => none) | none => none) = _
    rw [e]
    rfl
  unfold pyEq
  rw [q a e, q b e2]
  have k : PyData.canLay0 (.list [.tuple [.tuple [.int 0, .int 0, .int 1], .tuple [.int 1]], .tuple [.int 1, .int 1], .tuple []]) = true := by decide +kernel
  have k2 : PyData.eqv (.list [.tuple [.tuple [.int 0, .int 0, .int 1], .tuple [.int 1]], .tuple [.int 1, .int 1], .tuple []]) (.list [.tuple [.tuple [.int 0, .int 0, .int 1], .tuple [.int 1]], .tuple [.int 1, .int 1], .tuple []]) = true := by decide +kernel
  dsimp only
  rw [k, k2]
  rfl
theorem pT1 (h : Hh) (x : Int) : pyEq h (.tup [.int x]) (.tup [.int x]) = some true :=
  (pyEq_tup h [x] [x]).trans (by simp)
theorem pT2 (h : Hh) (x y : Int) : pyEq h (.tup [.int x, .int y]) (.tup [.int x, .int y]) = some true :=
  (pyEq_tup h [x, y] [x, y]).trans (by simp)
def l38 : I := (.sCons (.sAsg (.gv 3) (.cal 25 (.acons (.var 0) (.acons (.var 1) .anil)))) (.sCons (.sIf (.or (.not (.tv (.cal 37 (.acons (.var 3) .anil)))) (.one (.not (.tv (.cal 37 (.acons (.var 3) .anil)))))) (.sCons (.sRet (.cst (.bl false))) .sNil) .sNil) .sNil))
theorem b38_eq : b38 = (.sCons (.sFor (.gv 1) (.iR (.acons (.blt .max2 (.acons (.cst (.int 1)) (.acons (.blt .min2 (.acons (.cst (.int 2)) (.acons (.blt .len (.acons (.var 0) .anil)) .anil))) .anil))) .anil)) l38) (.sCons (.sAsg (.gv 2) (.lst (.acons (.cal 23 (.acons (.cst (.int 2)) (.acons (.tup (.acons (.cst (.int 1)) (.acons (.cst (.int 0)) (.acons (.cst (.int 1)) (.acons (.cst (.int 1)) .anil))))) (.acons (.tup (.acons (.cst (.int 1)) (.acons (.cst (.int 1)) .anil))) .anil)))) (.acons (.cal 24 (.acons (.cst (.int 3)) (.acons (.tup (.acons (.cst (.int 2)) (.acons (.cst (.int 0)) (.acons (.cst (.int 1)) .anil)))) (.acons (.tup (.acons (.cst (.int 1)) (.acons (.cst (.int 1)) .anil))) .anil)))) (.acons (.cal 24 (.acons (.cst (.int 5)) (.acons (.tup .anil) (.acons (.tup .anil) .anil)))) .anil))))) (.sCons (.sIf (.or (.cmp .ne (.var 2) (.lst (.acons (.tup (.acons (.tup (.acons (.cst (.int 0)) (.acons (.cst (.int 0)) (.acons (.cst (.int 1)) .anil)))) (.acons (.tup (.acons (.cst (.int 1)) .anil)) .anil))) (.acons (.tup (.acons (.cst (.int 1)) (.acons (.cst (.int 1)) .anil))) (.acons (.tup .anil) .anil))))) (.one (.cmp .ne (.cal 22 (.acons (.cst (.int 7)) (.acons (.tup (.acons (.cst (.int 3)) .anil)) (.acons (.tup (.acons (.cst (.int 5)) .anil)) .anil)))) (.tup (.acons (.cst (.int 1)) .anil))))) (.sCons (.sRet (.cst (.bl false))) .sNil) .sNil) (.sCons (.sRet (.and (.cmp .eq (.cal 20 (.acons (.cst (.int 2)) (.acons (.tup (.acons (.cst (.int 1)) (.acons (.cst (.int 1)) .anil))) (.acons (.tup (.acons (.cst (.int 0)) (.acons (.cst (.int 1)) .anil))) .anil)))) (.tup (.acons (.cst (.int 1)) .anil))) (.one (.cmp .eq (.cal 21 (.acons (.cst (.int 7)) (.acons (.tup .anil) (.acons (.tup (.acons (.cst (.int 1)) (.acons (.cst (.int 6)) .anil))) .anil)))) (.tup (.acons (.cst (.int 6)) (.acons (.cst (.int 1)) .anil))))))) .sNil)))) := rfl
theorem r_loop (m : Nat) (ns : List Int) (N : Nat) (hN : N ≤ 2) (h : Hh) : ∃ v w h', loopF (.rg 0 1 N) (forT P (m + 228) (.gv 1) l38) turns 0 [.frl (intL ns), .una, .una, .una] h = .nx [.frl (intL ns), v, .una, w] h' := by
  obtain ⟨σ', h', e, v, w, e1⟩ := loopF_inv (s := .rg 0 1 N) (f := forT P (m + 228) (.gv 1) l38)
    (fun i σ hh => ∃ v w, σ = [.frl (intL ns), v, .una, w]) N
    (fun i σ hh hi ⟨v, w, e⟩ => by
      subst e
      obtain ⟨x, y, z, e2⟩ := r_pot (m + 165) ns i hh
      have po : Pot (hh ++ [intL [x, y, z]]) hh.length := ⟨x, y, z, by rw [h_get0]; rfl⟩
      obtain ⟨h1, e3, H1⟩ := r_right (m + 1) hh.length _ po
      obtain ⟨h2, e4, H2⟩ := r_right m hh.length _ (H1.pot po)
      refine ⟨_, _, h2, src_up hi, .inl ?_, .int i, .ptr hh.length, rfl⟩
      simp -implicitDefEqProofs [l38]
      rw [e2]
      simp -implicitDefEqProofs
      rw [e3]
      simp -implicitDefEqProofs
      rw [e4]
      simp -implicitDefEqProofs)
    (fun _ _ _ => src_rend) turns 0 _ h (by unfold turns; omega) (Nat.zero_le _) ⟨.una, .una, rfl⟩
  exact ⟨v, w, h', by rw [e, e1]⟩
theorem r_law (n : Nat) (ns : List Int) (h : Hh) : ∃ h', callF P (n + 230) 38 [.frl (intL ns)] h = .ok (.bl true) h' := by
  rw [callF_at P fs38 rfl]
  simp only [b38_eq]
  obtain ⟨N, hN, eN⟩ : ∃ N : Nat, N ≤ 2 ∧ (if (1 : Int) < (if (ns.length : Int) < 2 then (ns.length : Int) else 2) then (if (ns.length : Int) < 2 then (ns.length : Int) else 2) else 1) = (N : Int) := by
    by_cases c1 : (ns.length : Int) < 2
    · simp only [c1, if_true]
      by_cases c2 : (1 : Int) < (ns.length : Int)
      · exact ⟨ns.length, by omega, by simp only [c2, if_true]⟩
      · exact ⟨1, by omega, by simp only [c2, if_false]; rfl⟩
    · simp only [c1, if_false]
      exact ⟨2, by omega, by decide⟩
  simp -implicitDefEqProofs [bi_len (x := .frl (intL ns)) rfl]
  rw [eN, rng1 _ (by omega)]
  simp -implicitDefEqProofs
  obtain ⟨v, w, h1, e1⟩ := r_loop n ns N hN h
  rw [e1]
  simp -implicitDefEqProofs [P1, P2, P3, tupK_of, mkT, lst_of, newL0]
  have q := pyEq_told (h := h1 ++ [toldL, toldL]) (a := h1.length) (b := h1.length + 1) (by rw [h_get0]; rfl) (by rw [h_get]; rfl)
  unfold toldL at q
  simp -implicitDefEqProofs [q, P4, pT1, P5, P6, pT2, tupK_of, mkT]
end K4
namespace K4
open PySem Ev
theorem law_runs (ns : List Int) : ∃ h', callF lw.P 230 38 [.frl (ns.map D.int)] [] = .ok (.bl true) h' := r_law 0 ns []
theorem okRs : (lw.rs.all fun r => okR lw.M r) = true := okR4
end K4
-- H4
set_option maxHeartbeats 0
namespace K4
open PySem PySem.Spec PyProof.Rows L2 Ev
abbrev RW : PySem.W.OpenRow := PySem.W.OpenLaw.row PySem.Challenge.rw_tablerings_k04_whole_polynomials_reckone
abbrev hkE : PySem.W.Hook := hookE 4 lw.fa lw.fn lw.cb
def obE (s : PySem.W.SharedT) : AlE := obsEG 4 lw.fa lw.fn lw.cb (HandSHeadRun.getT s)
theorem obE_eq (s : PySem.W.SharedT) : obE s = hkE.obs s.abs := obsEG_eq (HandSHeadRun.getT_eq s)
def lo0 : List PySem.Str := ["RingError", "InvalidPoly", "InvalidNumber", "Refused", "PRIMES", "UNDONE", "is_whole", "is_within", "is_prime", "is_residue_row", "undone_residue", "require_prime", "zero_row", "scaled_row", "added_row", "MAX_DEGREE", "trimmed", "poly_added", "poly_times", "poly_divided", "poly_monic", "poly_gcd", "is_poly_in", "require_poly", "require_prime_and_poly", "require_two_polys", "is_poly", "poly_sum", "poly_less", "poly_product"]
def lo1 : List PySem.Str := ["poly_parts", "poly_shared", "_law_pot", "_law_ladle", "_law_pick", "_law_trimmed", "_law_plus", "_law_times", "_law_undone", "_law_divided", "_law_shared", "_law_drawn_poly", "_law_is_due", "_law_near", "_law_right"]
def los : List PySem.Str := lo0 ++ lo1
theorem runF (w : World) : HandSHeadRun.RunEq RW (PySem.W.view RW.prog [50]) hkE obE 6000 los (w.withFollow "special-get-raises" false) := by
  intro os
  kernel_rfl
theorem runT (w : World) : HandSHeadRun.RunEq RW (PySem.W.view RW.prog [50]) hkE obE 6000 los (w.withFollow "special-get-raises" true) := by
  intro os
  kernel_rfl
theorem runE (w : World) : HandSHeadRun.RunEq RW (PySem.W.view RW.prog [50]) hkE obE 6000 los w :=
  PySem.W.byRow2 "special-get-raises" (P := fun w => HandSHeadRun.RunEq RW (PySem.W.view RW.prog [50]) hkE obE 6000 los w) runF runT w
end K4
open PySem PySem.W PySem.Calls PyProof.Rows
theorem PySem.Challenge.cw_tablerings_k04_whole_polynomials_reckone_holds : PySem.Challenge.rw_tablerings_k04_whole_polynomials_reckone.Holds := by
  w_on; o_law
  have ge : (HandSHeadRun.topDef K4.RW.prog 50).name = ("law" : PySem.Str) := by kernel_rfl
  refine HandSHeadRun.head_any (r := K4.RW) (q := view K4.RW.prog [50]) (H := K4.hkE) (ob := K4.obE)
    (M := 6000) (loose := K4.los) (d := HandSHeadRun.topDef K4.RW.prog 50) (kwd := [])
    K4.obE_eq (by kernel_rfl) (fun s => by kernel_rfl) K4.runE (by kernel_rfl) (by kernel_rfl)
    (by kernel_rfl) (by rfl)
    (by first | assumption | decide +kernel)
    (by decide +kernel)
    ⟨rfl, rfl, rfl, rfl, rfl, by decide +kernel⟩ ?hw ?hc
  case hw => w_witness2
  case hc =>
    refine L2.walk_ofE (l := PySem.Challenge.rw_tablerings_k04_whole_polynomials_reckone) (n := 63) (k := 230 + 1) (x := "_law_script")
      (CX := L2.CX0) rfl (by decide) (by kernel_rfl) ⟨rfl, by decide, by decide⟩ ?F (fun _ _ _ _ z => z)
    intro w mg fa h Y G hm0
    obtain ⟨K, KX, c⟩ := Y
    have ha : mg ("law" : PySem.Str) = some (.ref fa) := ge ▸ hm0
    obtain ⟨fd, hb, hF⟩ := Ev.Lw.law KX G c K4.okRs (f := 38) rfl (x := "_law_script") rfl ha 230
    refine ⟨K, fd, _, KX, hb, fun H a ns hl hO hS => ?_, fun base _ _ => hF _ w base⟩
    obtain ⟨h2, run⟩ := K4.law_runs ns
    exact Ev.Lw.says 230 38 hO hS run
